/-
  Part 13 of the lemmas of these laws: ShardNames.
-/
import Derived.Test.YtkibkhgcbepolaaGreatDoorPSn12
set_option linter.unusedVariables false
set_option linter.unusedSimpArgs false
open Go.Proofs.Tryz
namespace Go.Proofs.YtkibkhgcbepolaaGreatDoor
namespace W
open Go.RowKit G
set_option maxRecDepth 20000
set_option maxHeartbeats 8000000
attribute [local irreducible] RS RX RY Code.wp bodyPost J Ent.blk Ent.iown Ent.wrow Ent.wown Ent.gown Ent.all Ent.emp
instance:Ents prog 151:=⟨.mk func151 (by kernel_rfl) rfl⟩
instance:Ents prog 152:=⟨.mk func152 (by kernel_rfl) rfl⟩
theorem erase_mid{α:Type}(f:α→Ent)(l:List α){p:Nat}(x:α)(h:p≤l.length):((l.take p++x::l.drop p).map f).eraseIdx p=l.map f:=by
 rw[List.map_append,List.map_cons,List.eraseIdx_append_of_length_le (by rw[List.length_map,List.length_take];omega),List.length_map,List.length_take,Nat.min_eq_left h,Nat.sub_self,List.eraseIdx_cons_zero,←List.map_append,List.take_append_drop]
theorem set_midE{α:Type}(f:α→Ent)(l:List α){p:Nat}(x:α)(h:p≤l.length):((l.take p++x::l.drop p).map f).set p (f x)=(l.take p++x::l.drop p).map f:=by
 rw[←List.map_set,List.set_append_right _ _ (by rw[List.length_take];omega),List.length_take,Nat.min_eq_left h,Nat.sub_self,List.set_cons_zero]
theorem shEq{a a':List S.PG}{b b':Nat}{c c':List Int}{d d':Int}(h1:a=a')(h2:b=b')(h3:c=c')(h4:d=d'):(⟨a,b,c,d⟩:S.ShV)=⟨a',b',c',d'⟩:=by rw[h1,h2,h3,h4]
theorem set_map{gs:List GrA}{v:S.ShV}{r:Nat}{q1:GrA}{p:S.PG}(h:gs.map GrA.P=v.ps)(e:q1.P=p):(gs.set r q1).map GrA.P=v.ps.set r p:=by rw[List.map_set,h,e]
theorem shPut{S0 S1:Nat→Prop}(s:ShA)(z:OpA)(TK:TypeId)(w:World)(K0:Kst w TK)(H:ShR S0 w s)(hL:ShL s)(R:OpR S1 w z):
  Calls prog 64 #[.agg (shC s).toArray, .agg (opC z).toArray] w (Gv w (fun q:ShA=> .tuple #[.agg (shC q).toArray, .agg (ints .u8 (S.puI s.V z.o)).toArray, .int .i64 (S.puE s.V z.o)]) (fun q=>shE q) (ShK (S.puS s.V z.o))):=by
 have P0:=H.pr;have hl:=P0.len;have hcp:=H.cap;have hll:s.V.ps.length=s.pn:=by rw[List.length_map,H.pr.len]
 have hoi:=S.ok_iff (v:=s.V) H.ml;have h20:=R.ok.n;have D1:=R.row;refine J.enter 130 func64 rfl rfl ?_;refine run ?_;refine J.box rfl rfl rfl fun b1=>?_
 refine J.box rfl rfl rfl fun b2=>?_
 refine J.alloc rfl fun b3=>?_
 refine J.alloc rfl fun b4=>?_
 refine run ?_;refine J.callp rfl rfl (fun w' M=>shCheck s _ w' (K0.ext M.ext) (H.ext M.ext) hL) ?_;refine run ?_;refine J.joinX (A:=Int) (fun r=>[(7, .int .i64 r)]) [24,25] (fun _=>[.blk b4 (ints .u8 (List.replicate 32 0)) 24, .blk b3 [.slice none 0 0, .slice none 0 0, .int .i64 0] 53, .blk b2 (opC z) 37, .blk b1 (shC s) 53]) (fun r=>(S.chkH s.V=0→r=S.verE z.o)∧(S.chkH s.V≠0→r=S.chkH s.V)) ?_ (fun r j1 hr=>?_)
 ·refine J.ife rfl (fun c1=>?_) (fun c1=>?_)
  ·refine run ?_;refine J.callp rfl rfl (fun w' M=>verifyO z.o R.ok _ _ _ _ (K0.ext M.ext) (R.row.ext M.ext) R.cap) ?_;refine run ?_;exact J.cut _ ⟨rfl,trivial⟩ (by kernel_rfl) ⟨fun _=>rfl,fun h=>absurd c1 h⟩
  refine run ?_;exact J.cut _ ⟨rfl,trivial⟩ (by kernel_rfl) ⟨fun h=>absurd h c1,fun _=>rfl⟩
 refine run ?_;refine J.ifn rfl (fun c2=>?_) (fun c2=>?_)
 ·have he:S.puE s.V z.o=r∧S.puS s.V z.o=S.ShV.zero∧S.puI s.V z.o=List.replicate 32 0:=by
   by_cases c:S.chkH s.V=0
   ·have e:=hr.1 c;have hok:=S.chkH_iff.1 c;rw[e]at c2⊢;exact S.pu_no hok (S.addE_2 hok.2.1 c2).1 c2
   have e:=hr.2 c;obtain⟨k1,k2⟩:=S.chkH_ne c;rw[e,k2];exact S.pu_8 k1
  refine run ?_;refine J.bz rfl ?_;refine run ?_;refine J.nilWo 24 .u8 32 ?_;refine J.noA ?_;refine J.nilG (fun g:GrA=>grC g) 2 43 grC_len ?_;rw[he.1,he.2.2];exact J.finG ShA.zero rfl (shZero he.2.1) sb
 have c1:S.chkH s.V=0:=Classical.byContradiction fun c=>c (by rw[←hr.2 c,c2]);have hv:S.verE z.o=0:=(hr.1 c1).symm.trans c2;have hchk:=S.verE_check hv;have hok:=S.chkH_iff.1 c1;have hokp:=hoi.1 hok;obtain⟨n1,n4⟩:=ok_len H hok;have hgp:=hokp.2.1;have hle:=H.le hL n4;have hwg:=S.whole_good (ps:=s.V.ps) H.ml;have hc:S.chkP (S.whole s.V.ps)=0:=hok.2.1;have hwo:=refWholeOk H;have hver:s.ver=((S.whole s.V.ps).m:Nat):=hokp.2.2.2.1;have hhs:s.hs=S.hdI (S.whole s.V.ps):=hokp.2.2.2.2;have hA:=S.sha_arr (S.encS z.o);obtain⟨r1,r2⟩:=S.res_lt (ps:=s.V.ps) (x:=S.idOf z.o) (by omega);obtain⟨g,hg⟩:∃g,s.gs[S.resN s.V.ps (S.idOf z.o)]? =some g:=⟨_,List.getElem?_eq_getElem (by rw[hl];omega)⟩
 have hgP:=shAt hg;have hin:=S.in_part (x:=S.idOf z.o) hgp (by omega);rw[hgP]at hin;refine run ?_;refine J.callp rfl rfl (fun w' M=>idO z.o R.ok _ _ _ _ (K0.ext M.ext) (R.row.ext M.ext) R.cap) ?_;rw[if_pos hchk];refine run ?_;refine J.alloc rfl fun b5=>?_
 refine run ?_;refine J.callp rfl rfl (fun w' M=>shFind s _ g w' (H.ext M.ext) hA hgp n1 hg) ?_;obtain⟨sp,hsp⟩:=ex (S.spotS g.m g.ids (S.sha (S.encS z.o)));rw[←hsp];have hspl:sp≤g.m:=by rw[hsp];exact S.spotC_le _ _
 refine run ?_;refine J.fn rfl rfl rfl ?_;refine run ?_;refine J.ifd rfl (fun c3=>?_) (fun c3=>?_)
 ·have he:=S.pu_no hok (S.addE_3 hc hv (hin.2 c3)) (by decide);refine run ?_;refine J.bz rfl ?_;refine run ?_;refine J.nilWo 24 .u8 32 ?_;refine J.noA ?_;refine J.nilG (fun g:GrA=>grC g) 2 43 grC_len ?_;rw[he.1,he.2.2];exact J.finG ShA.zero rfl (shZero he.2.1) sb
 have hin':¬S.inS (S.whole s.V.ps).m (S.whole s.V.ps).ids (S.idOf z.o):=fun h=>c3 (hin.1 h);refine run ?_;refine J.callp rfl rfl (fun w' M=>hasAbs s _ _ _ _ b1 _ w' (blkC b1 M) (H.ext M.ext) (D1.ext M.ext) hgp n1 (by omega)) ?_;refine run ?_;refine J.ifd rfl (fun c4=>?_) (fun c4=>?_)
 ·have he:=S.pu_no hok (S.addE_4 hc hv hin' c4) (by decide);refine run ?_;refine J.bz rfl ?_;refine run ?_;refine J.nilWo 24 .u8 32 ?_;refine J.noA ?_;refine J.nilG (fun g:GrA=>grC g) 2 43 grC_len ?_;rw[he.1,he.2.2];exact J.finG ShA.zero rfl (shZero he.2.1) sb
 have c4:=Classical.not_not.1 c4;refine run ?_;refine J.ife rfl (fun c5=>?_) (fun c5=>?_)
 ·have he:=S.pu_no hok (S.addE_5 hc hv hin' c4 (by omega)) (by decide);refine run ?_;refine J.bz rfl ?_;refine run ?_;refine J.nilWo 24 .u8 32 ?_;refine J.noA ?_;refine J.nilG (fun g:GrA=>grC g) 2 43 grC_len ?_;rw[he.1,he.2.2];exact J.finG ShA.zero rfl (shZero he.2.1) sb
 have ha:=S.addE_0 hc hv hin' c4 (by omega);have he:=S.pu_0 hok ha;have hmp:=S.made_put hokp ha;obtain⟨hd1,hd2,hd3⟩:=S.hd_all (g:=S.whole s.V.ps) ((S.chkP_fine hwg.1).1 hc);have hhl:=H.hr.len;have hhn:S.hdN (S.whole s.V.ps)=s.hn:=by rw[←hhs]at hd1;omega
 rw[hhn]at hmp hd2;rw[←hhs]at hd2;rw[he.1,he.2.1,he.2.2,hmp];clear hmp he hd1 hd3;obtain⟨ke1,ke2,_⟩:=S.kp_all (o:=z.o) (n:=s.hn) (hs:=s.hs) hhl hd2;have hkn:=S.numF_le (S.keepF z.o s.hs) s.hn;have hkn':S.kpN z.o s.hn s.hs≤s.hn:=hkn;have hhn60:s.hn≤64:=by have:=S.numF_le (S.hdF (S.whole s.V.ps).m (S.whole s.V.ps).ids (S.whole s.V.ps).ops) (S.whole s.V.ps).m;have e:S.numF (S.hdF (S.whole s.V.ps).m (S.whole s.V.ps).ids (S.whole s.V.ps).ops) (S.whole s.V.ps).m=s.hn:=hhn;omega
 obtain⟨rr,hrr⟩:=ex (S.resN s.V.ps (S.idOf z.o));rw[←hrr]at r1 r2 hg hgP⊢;refine run ?_;refine J.alloc rfl fun b6=>?_
 refine run ?_;refine J.noA ?_;refine J.nilG (fun g:GrA=>grC g) 2 43 grC_len ?_;refine J.loop (A:=TsA) (fun p=>[(68, .int .i64 (p.i:Nat))]) [16,69,70,71,72,73,74,75,76,77,78,79] (fun p=>[.gown (fun g:GrA=>grC g) 2 43 p.a p.i p.c p.gs, .all (p.gs.map grAll), .blk b6 [.slice p.a p.i p.c, .slice none 0 0, .int .i64 (s.ver+1)] 53, .blk b5 (ints .u8 (S.sha (S.encS z.o))) 24, .blk b4 (ints .u8 (List.replicate 32 0)) 24, .blk b3 [.slice none 0 0, .slice none 0 0, .int .i64 0] 53, .blk b2 (opC z) 37, .blk b1 (shC s) 53]) (fun p=>p.i≤s.pn∧p.gs.map GrA.P=s.V.ps.take p.i∧∀x∈p.gs,GrK x) (fun p=>s.pn - p.i) ⟨0,none,0,[]⟩ (by kernel_rfl) ⟨Nat.zero_le _,rfl,fun z hz=>(by cases hz)⟩ (fun p j2 hI=>?_);obtain⟨hp,hps,hpk⟩:=hI;refine run ?_;refine J.ifd rfl (fun d1=>?_) (fun d1=>?_)
 ·obtain⟨y,hy⟩:=P0.ex (i:=(p.i:Nat)) (by omega);have hy':=hy;rw[Int.toNat_natCast]at hy';have G:=H.g hy';have hcp2:=G.cap;refine run ?_;refine J.alloc rfl fun b7=>?_
  refine run ?_;refine J.regionX [(0, .q),(1, .q),(2, .q),(3, .e),(4, .e),(5, .g),(6, .q),(7, .g)] mixed (by kernel_rfl) ?_;refine run ?_;refine J.call rfl rfl (fun w' M=>shTwin y w' (G.ext M.ext)) fun q hq=>?_
  dsimp only[grE,List.cons_append,List.nil_append];refine J.b1G (fun g:GrA=>grC g) q grC_len rfl rfl rfl fun bb=>?_
  refine J.apG rfl rfl RG.own' grC_one fun a' c'=>?_
  refine run ?_;refine J.triG q ?_;refine J.snocA (p.gs.map grAll) (grAll q) ?_;refine J.re (.all (p.gs.map grAll++[grAll q])) (.all ((p.gs++[q]).map grAll)) (fun _ _ h=>by rw[List.map_append];exact h) ?_;refine J.drop (E:=[.gown (fun g:GrA=>grC g) 2 43 a' (p.i+1) c' (p.gs++[q]), .all ((p.gs++[q]).map grAll), .blk b6 [.slice a' (p.i+1) c', .slice none 0 0, .int .i64 (s.ver+1)] 53, .blk b5 (ints .u8 (S.sha (S.encS z.o))) 24, .blk b4 (ints .u8 (List.replicate 32 0)) 24, .blk b3 [.slice none 0 0, .slice none 0 0, .int .i64 0] 53, .blk b2 (opC z) 37, .blk b1 (shC s) 53]) sb ?_
  exact J.next ⟨p.i + 1, a', c', p.gs ++ [q]⟩ ⟨rfl, trivial⟩ (by kernel_rfl) ⟨by dsimp only; omega, gsTake hy' (GrP.P (P := y.P) hq) hps, fun u hu => by
   rcases List.mem_append.1 hu with h | h
   ·exact hpk u h
   rw [List.mem_singleton] at h
   subst h
   exact ⟨hq.ok G.opz, hq.cap⟩⟩ (by dsimp only; omega)
 obtain⟨pi,pa,pc,gs⟩:=p;dsimp only at hp hps hpk d1⊢;obtain rfl:pi=s.pn:=by omega
 have hps:gs.map GrA.P=s.V.ps:=hps.trans (List.take_of_length_le (by rw[hll];exact Nat.le_refl _));refine run ?_;refine J.call rfl rfl (fun w' M=>cloneW _ _ _ _ w' (D1.ext M.ext) R.cap (by omega)) fun q hq=>?_
 refine run ?_;have hgl:gs.length=s.pn:=by have:=congrArg List.length hps;rw[List.length_map]at this;omega
 obtain⟨q0,hq0⟩:∃q0,gs[rr]? =some q0:=⟨_,List.getElem?_eq_getElem (by omega)⟩
 have hq0P:q0.P=g.P:=by
  have e:=congrArg (fun l:List S.PG=>l[rr]?) hps;simp only[List.getElem?_map,hq0,hg,Option.map_some]at e;exact Option.some.inj e
 have hq0m:q0.m=g.m:=congrArg S.PG.m hq0P;have hq0i:q0.ids=g.ids:=congrArg S.PG.ids hq0P;have hgg:=hgp _ r2;rw[hgP]at hgg;have hgn:g.ops.length=g.m:=hgg.1.2;have hq0o:q0.ops=g.ops:=congrArg S.PG.ops hq0P;have hq0k:=hpk q0 (List.mem_of_getElem? hq0);have hgm:g.m≤70:=(H.g hg).cap.2.2.1;refine J.fact (.gown (fun g:GrA=>grC g) 2 43 pa s.pn pc gs) (fun _ _ h=>(gown_e h).1.some (by omega)) fun hpa=>?_
 have hpb:∃b o,pa=some ⟨b,o,none⟩:=hpa.elim fun b h=>⟨b,0,h⟩
 have hgr:gs[((rr:Nat):Int).toNat]? =some q0:=by rw[Int.toNat_natCast];exact hq0
 refine J.openA (gs.map grAll) rr (e:=grAll q0) (by rw[List.getElem?_map,hq0];rfl) ?_;refine J.re (grAll q0) (.all [.gown opC 11 37 (q0).oa (q0).n (q0).oc (q0).zs, .all ((q0).zs.map (opE 24)), .wown 24 .u8 32 (q0).ia (q0).m (q0).ic (q0).ids]) (fun _ _ h=>h) ?_;refine J.openA [.gown opC 11 37 (q0).oa (q0).n (q0).oc (q0).zs, .all ((q0).zs.map (opE 24)), .wown 24 .u8 32 (q0).ia (q0).m (q0).ic (q0).ids] 2 rfl ?_;dsimp only[List.eraseIdx];refine J.openA [.gown opC 11 37 (q0).oa (q0).n (q0).oc (q0).zs, .all ((q0).zs.map (opE 24))] 1 rfl ?_;dsimp only[List.eraseIdx];refine J.openA [.gown opC 11 37 (q0).oa (q0).n (q0).oc (q0).zs] 0 rfl ?_;dsimp only[List.eraseIdx];refine J.fact (.wown 24 .u8 32 q0.ia q0.m q0.ic q0.ids) (fun _ _ h=>(wown_len h).1) fun hlen0=>?_
 refine J.fact (.wown 24 .u8 32 q0.ia q0.m q0.ic q0.ids) (fun _ _ h=>(wown_e h).1.bd) fun hbd0=>?_
 refine J.fact (.gown opC 11 37 q0.oa q0.n q0.oc q0.zs) (fun _ _ h=>(gown_e h).1.len) fun hzl0=>?_
 obtain⟨ids,hl1,hl2⟩:=chunks q0.m q0.ids hlen0;have hzn:q0.n=g.m:=by have h:=congrArg List.length hq0o;unfold GrA.ops at h;rw[List.length_map]at h;unfold GrA.ops at hgn;omega
 have hil:(ids.take sp++(⟨S.sha (S.encS z.o),hA.1⟩:IdV)::ids.drop sp).length=q0.m+1:=by simp;omega
 have hzl:(q0.zs.take sp++(⟨z.o,q.1,q.2⟩:OpA)::q0.zs.drop sp).length=q0.n+1:=by simp;omega
 have hcv:flatI (ids.take sp++(⟨S.sha (S.encS z.o),hA.1⟩:IdV)::ids.drop sp)=S.insW q0.ids sp (S.sha (S.encS z.o)):=by rw[flatI_ins,hl2]
 have hbd:Bd .u8 (S.insW q0.ids sp (S.sha (S.encS z.o))):=ins_bd hbd0 hA.2;have hsg1:∀ia ic,(gs.set ((rr:Nat):Int).toNat (⟨ia,q0.oa,q0.m+1,q0.n,ic,q0.oc,S.insW q0.ids sp (S.sha (S.encS z.o)),q0.zs⟩:GrA))[((rr:Nat):Int).toNat]? =some ⟨ia,q0.oa,q0.m+1,q0.n,ic,q0.oc,S.insW q0.ids sp (S.sha (S.encS z.o)),q0.zs⟩:=fun ia ic=>by rw[List.getElem?_set,if_pos rfl,if_pos (by omega)]
 refine J.joinX (A:=(Option Addr×Nat)×(Option Addr×Nat)) (fun u=>[]) [88,89,90,91,92,93,94,95,96,97,98,99,100,101,102,103,104,105,106,107,108,109] (fun u=>[.gown opC 11 37 u.2.1 (q0.n+1) u.2.2 (q0.zs.take sp++(⟨z.o,q.1,q.2⟩:OpA)::q0.zs.drop sp), .all (q0.zs.map (opE 24)), .wown 24 .u8 32 u.1.1 (q0.m+1) u.1.2 (S.insW q0.ids sp (S.sha (S.encS z.o))), .gown (fun g:GrA=>grC g) 2 43 pa s.pn pc (gs.set rr (⟨u.1.1,u.2.1,q0.m+1,q0.n+1,u.1.2,u.2.2,S.insW q0.ids sp (S.sha (S.encS z.o)),q0.zs.take sp++(⟨z.o,q.1,q.2⟩:OpA)::q0.zs.drop sp⟩:GrA)), .all ((gs.map grAll).eraseIdx rr), .blk b6 [.slice pa s.pn pc, .slice none 0 0, .int .i64 (s.ver+1)] 53, .wown 24 .u8 32 q.1 z.o.n q.2 z.o.ids, .blk b5 (ints .u8 (S.sha (S.encS z.o))) 24, .blk b4 (ints .u8 (List.replicate 32 0)) 24, .blk b3 [.slice none 0 0, .slice none 0 0, .int .i64 0] 53, .blk b2 (opC ⟨z.o,q.1,q.2⟩) 37, .blk b1 (shC s) 53]) (fun _=>True) ?_ (fun u j3 _=>?_)
 ·refine J.regionG [.gown (fun g:GrA=>grC g) 2 43 pa s.pn pc gs, .blk b5 (ints .u8 (S.sha (S.encS z.o))) 24, .blk b2 (opC ⟨z.o,q.1,q.2⟩) 37] [20,23] [1,18,19,21,22] mixed ?_;refine J.gnodeC [(0, .q),(1, .c),(2, .q),(3, .q),(4, .q),(5, .q),(6, .q),(7, .q),(10, .q),(11, .q),(12, .q),(13, .q),(14, .q),(15, .q)] [8,16] 9 #[true,true,true,true,true,true,true,true,false,false,true,true,true,true,true,true,false,false,false,false,false,false,false,false] (by kernel_rfl) ?_;refine run ?_;refine J.ncP rfl hpb rfl ?_;refine run ?_;refine J.ncP rfl hpb rfl ?_;refine run ?_;refine J.nil ?_;refine J.gbr ?_ ?_
  ·refine J.b1G idC ⟨S.sha (S.encS z.o),hA.1⟩ idC_len rfl rfl rfl fun bx=>?_
   refine J.nil ?_;refine J.gnode [] [9,16] 8 #[true,true,true,true,true,true,true,true,true,false,true,true,true,true,true,true,false,false,false,false,false,false,false,false] (by kernel_rfl) ?_;refine run ?_;refine J.nil ?_;refine J.gbr ?_ ?_
   ·refine J.re (.wown 24 .u8 32 q0.ia q0.m q0.ic q0.ids) (.gown idC 32 24 q0.ia q0.m q0.ic ids) (fun _ _ h=>wown_gown hl2 hl1 h) ?_
    refine J.callG rfl (fun w' M hO' => insId0 q0.ia q0.m q0.ic ids sp ⟨S.sha (S.encS z.o), hA.1⟩ bx w' hO' (by omega) (by omega) (let ⟨_, _, k⟩ := M.get (GO.h (a := some ⟨bx, 0, none⟩) (some ⟨bx, 0, none⟩) 1 1 [(⟨S.sha (S.encS z.o), hA.1⟩ : IdV)]).same; gown_one (gown_e k).1) (fun he => by
     obtain ⟨S1, S2, h1, h2, h3⟩ := M.two (.gown idC 32 24 q0.ia q0.m q0.ic ids) (.gown idC 32 24 (some ⟨bx, 0, none⟩) 1 1 [(⟨S.sha (S.encS z.o), hA.1⟩ : IdV)])
     exact h1 bx ((gown_e h2).2 _ he) ((gown_e h3).2 _ rfl))) fun ia ic => ?_
    rw[hil];refine J.nil ?_;refine J.gfin [(16, .e),(17, .e),(18, .c),(19, .c),(20, .g),(21, .c),(22, .c),(23, .g)] (by kernel_rfl) ?_;refine run ?_;refine J.b1G opC ⟨z.o,q.1,q.2⟩ opC_len rfl rfl rfl fun bz=>?_
    refine run ?_
    refine J.callG rfl (fun w' M hO' => insOp0 q0.oa q0.n q0.oc q0.zs sp ⟨z.o, q.1, q.2⟩ bz w' hO' (by omega) (by omega) (let ⟨_, _, k⟩ := M.get (GO.h (a := some ⟨bz, 0, none⟩) (some ⟨bz, 0, none⟩) 1 1 [(⟨z.o, q.1, q.2⟩ : OpA)]).same; gown_one (gown_e k).1) (fun he => by
     obtain ⟨S1, S2, h1, h2, h3⟩ := M.two (.gown opC 11 37 q0.oa q0.n q0.oc q0.zs) (.gown opC 11 37 (some ⟨bz, 0, none⟩) 1 1 [(⟨z.o, q.1, q.2⟩ : OpA)])
     exact h1 bz ((gown_e h2).2 _ he) ((gown_e h3).2 _ rfl))) fun oa oc => ?_
    rw[hzl];refine J.sw rfl ?_;refine run ?_;refine J.ncP rfl hpb rfl ?_;refine J.flP rfl hpb rfl ?_;refine run ?_;refine J.stGf (f:=fun g:GrA=>grC g) (o:=0) (q0:=q0) (q:=⟨ia,q0.oa,q0.m+1,q0.n,ic,q0.oc,S.insW q0.ids sp (S.sha (S.encS z.o)),q0.zs⟩) rfl rfl hgr rfl ?_;refine run ?_;refine J.ncP rfl hpb rfl ?_;refine J.flP rfl hpb rfl ?_;refine run ?_;refine J.stGf (f:=fun g:GrA=>grC g) (o:=1) (q0:=⟨ia,q0.oa,q0.m+1,q0.n,ic,q0.oc,S.insW q0.ids sp (S.sha (S.encS z.o)),q0.zs⟩) (q:=⟨ia,oa,q0.m+1,q0.n+1,ic,oc,S.insW q0.ids sp (S.sha (S.encS z.o)),(q0.zs.take sp++(⟨z.o,q.1,q.2⟩:OpA)::q0.zs.drop sp)⟩) rfl rfl (hsg1 ia ic) rfl ?_;rw[List.set_set,Int.toNat_natCast rr];refine run ?_;refine J.re (.gown idC 32 24 ia (q0.m+1) ic (ids.take sp++(⟨S.sha (S.encS z.o),hA.1⟩:IdV)::ids.drop sp)) (.wown 24 .u8 32 ia (q0.m+1) ic (S.insW q0.ids sp (S.sha (S.encS z.o)))) (fun _ _ h=>hcv▸gown_wown (hcv.symm▸hbd) h) ?_;refine J.front (.blk b6 [.slice pa s.pn pc, .slice none 0 0, .int .i64 (s.ver+1)] 53) ?_;refine J.front (.all ((gs.map grAll).eraseIdx rr)) ?_;refine J.front (.gown (fun g:GrA=>grC g) 2 43 pa s.pn pc (gs.set rr ⟨ia,oa,q0.m+1,q0.n+1,ic,oc,S.insW q0.ids sp (S.sha (S.encS z.o)),(q0.zs.take sp++(⟨z.o,q.1,q.2⟩:OpA)::q0.zs.drop sp)⟩)) ?_;refine J.front (.wown 24 .u8 32 ia (q0.m+1) ic (S.insW q0.ids sp (S.sha (S.encS z.o)))) ?_;refine J.front (.all (q0.zs.map (opE 24))) ?_;refine J.front (.gown opC 11 37 oa (q0.n+1) oc (q0.zs.take sp++(⟨z.o,q.1,q.2⟩:OpA)::q0.zs.drop sp)) ?_;exact J.cut ((ia,ic),(oa,oc)) trivial (by kernel_rfl) trivial
   refine J.gbr ?_ ?_
   ·refine J.b1G opC ⟨z.o,q.1,q.2⟩ opC_len rfl rfl rfl fun bz=>?_
    refine J.nil ?_;refine J.gfin [(9, .e),(17, .e),(18, .c),(19, .c),(20, .g),(21, .c),(22, .c),(23, .g)] (by kernel_rfl) ?_;refine run ?_;refine J.re (.wown 24 .u8 32 q0.ia q0.m q0.ic q0.ids) (.gown idC 32 24 q0.ia q0.m q0.ic ids) (fun _ _ h=>wown_gown hl2 hl1 h) ?_
    refine J.callG rfl (fun w' M hO' => insId0 q0.ia q0.m q0.ic ids sp ⟨S.sha (S.encS z.o), hA.1⟩ bx w' hO' (by omega) (by omega) (let ⟨_, _, k⟩ := M.get (GO.h (a := some ⟨bx, 0, none⟩) (some ⟨bx, 0, none⟩) 1 1 [(⟨S.sha (S.encS z.o), hA.1⟩ : IdV)]).same; gown_one (gown_e k).1) (fun he => by
     obtain ⟨S1, S2, h1, h2, h3⟩ := M.two (.gown idC 32 24 q0.ia q0.m q0.ic ids) (.gown idC 32 24 (some ⟨bx, 0, none⟩) 1 1 [(⟨S.sha (S.encS z.o), hA.1⟩ : IdV)])
     exact h1 bx ((gown_e h2).2 _ he) ((gown_e h3).2 _ rfl))) fun ia ic => ?_
    rw[hil];refine run ?_
    refine J.callG rfl (fun w' M hO' => insOp0 q0.oa q0.n q0.oc q0.zs sp ⟨z.o, q.1, q.2⟩ bz w' hO' (by omega) (by omega) (let ⟨_, _, k⟩ := M.get (GO.h (a := some ⟨bz, 0, none⟩) (some ⟨bz, 0, none⟩) 1 1 [(⟨z.o, q.1, q.2⟩ : OpA)]).same; gown_one (gown_e k).1) (fun he => by
     obtain ⟨S1, S2, h1, h2, h3⟩ := M.two (.gown opC 11 37 q0.oa q0.n q0.oc q0.zs) (.gown opC 11 37 (some ⟨bz, 0, none⟩) 1 1 [(⟨z.o, q.1, q.2⟩ : OpA)])
     exact h1 bz ((gown_e h2).2 _ he) ((gown_e h3).2 _ rfl))) fun oa oc => ?_
    rw[hzl];refine J.sw rfl ?_;refine run ?_;refine J.ncP rfl hpb rfl ?_;refine J.flP rfl hpb rfl ?_;refine run ?_;refine J.stGf (f:=fun g:GrA=>grC g) (o:=0) (q0:=q0) (q:=⟨ia,q0.oa,q0.m+1,q0.n,ic,q0.oc,S.insW q0.ids sp (S.sha (S.encS z.o)),q0.zs⟩) rfl rfl hgr rfl ?_;refine run ?_;refine J.ncP rfl hpb rfl ?_;refine J.flP rfl hpb rfl ?_;refine run ?_;refine J.stGf (f:=fun g:GrA=>grC g) (o:=1) (q0:=⟨ia,q0.oa,q0.m+1,q0.n,ic,q0.oc,S.insW q0.ids sp (S.sha (S.encS z.o)),q0.zs⟩) (q:=⟨ia,oa,q0.m+1,q0.n+1,ic,oc,S.insW q0.ids sp (S.sha (S.encS z.o)),(q0.zs.take sp++(⟨z.o,q.1,q.2⟩:OpA)::q0.zs.drop sp)⟩) rfl rfl (hsg1 ia ic) rfl ?_;rw[List.set_set,Int.toNat_natCast rr];refine run ?_;refine J.re (.gown idC 32 24 ia (q0.m+1) ic (ids.take sp++(⟨S.sha (S.encS z.o),hA.1⟩:IdV)::ids.drop sp)) (.wown 24 .u8 32 ia (q0.m+1) ic (S.insW q0.ids sp (S.sha (S.encS z.o)))) (fun _ _ h=>hcv▸gown_wown (hcv.symm▸hbd) h) ?_;refine J.front (.blk b6 [.slice pa s.pn pc, .slice none 0 0, .int .i64 (s.ver+1)] 53) ?_;refine J.front (.all ((gs.map grAll).eraseIdx rr)) ?_;refine J.front (.gown (fun g:GrA=>grC g) 2 43 pa s.pn pc (gs.set rr ⟨ia,oa,q0.m+1,q0.n+1,ic,oc,S.insW q0.ids sp (S.sha (S.encS z.o)),(q0.zs.take sp++(⟨z.o,q.1,q.2⟩:OpA)::q0.zs.drop sp)⟩)) ?_;refine J.front (.wown 24 .u8 32 ia (q0.m+1) ic (S.insW q0.ids sp (S.sha (S.encS z.o)))) ?_;refine J.front (.all (q0.zs.map (opE 24))) ?_;refine J.front (.gown opC 11 37 oa (q0.n+1) oc (q0.zs.take sp++(⟨z.o,q.1,q.2⟩:OpA)::q0.zs.drop sp)) ?_;exact J.cut ((ia,ic),(oa,oc)) trivial (by kernel_rfl) trivial
   exact J.gbr0
  refine J.gbr ?_ ?_
  ·refine J.b1G opC ⟨z.o,q.1,q.2⟩ opC_len rfl rfl rfl fun bz=>?_
   refine J.nil ?_;refine J.gfin [(8, .e),(9, .e),(17, .e),(18, .c),(19, .c),(20, .g),(21, .c),(22, .c),(23, .g)] (by kernel_rfl) ?_;refine run ?_;refine J.b1G idC ⟨S.sha (S.encS z.o),hA.1⟩ idC_len rfl rfl rfl fun bx=>?_
   refine run ?_;refine J.re (.wown 24 .u8 32 q0.ia q0.m q0.ic q0.ids) (.gown idC 32 24 q0.ia q0.m q0.ic ids) (fun _ _ h=>wown_gown hl2 hl1 h) ?_
   refine J.callG rfl (fun w' M hO' => insId0 q0.ia q0.m q0.ic ids sp ⟨S.sha (S.encS z.o), hA.1⟩ bx w' hO' (by omega) (by omega) (let ⟨_, _, k⟩ := M.get (GO.h (a := some ⟨bx, 0, none⟩) (some ⟨bx, 0, none⟩) 1 1 [(⟨S.sha (S.encS z.o), hA.1⟩ : IdV)]).same; gown_one (gown_e k).1) (fun he => by
    obtain ⟨S1, S2, h1, h2, h3⟩ := M.two (.gown idC 32 24 q0.ia q0.m q0.ic ids) (.gown idC 32 24 (some ⟨bx, 0, none⟩) 1 1 [(⟨S.sha (S.encS z.o), hA.1⟩ : IdV)])
    exact h1 bx ((gown_e h2).2 _ he) ((gown_e h3).2 _ rfl))) fun ia ic => ?_
   rw[hil];refine run ?_
   refine J.callG rfl (fun w' M hO' => insOp0 q0.oa q0.n q0.oc q0.zs sp ⟨z.o, q.1, q.2⟩ bz w' hO' (by omega) (by omega) (let ⟨_, _, k⟩ := M.get (GO.h (a := some ⟨bz, 0, none⟩) (some ⟨bz, 0, none⟩) 1 1 [(⟨z.o, q.1, q.2⟩ : OpA)]).same; gown_one (gown_e k).1) (fun he => by
    obtain ⟨S1, S2, h1, h2, h3⟩ := M.two (.gown opC 11 37 q0.oa q0.n q0.oc q0.zs) (.gown opC 11 37 (some ⟨bz, 0, none⟩) 1 1 [(⟨z.o, q.1, q.2⟩ : OpA)])
    exact h1 bz ((gown_e h2).2 _ he) ((gown_e h3).2 _ rfl))) fun oa oc => ?_
   rw[hzl];refine J.sw rfl ?_;refine run ?_;refine J.ncP rfl hpb rfl ?_;refine J.flP rfl hpb rfl ?_;refine run ?_;refine J.stGf (f:=fun g:GrA=>grC g) (o:=0) (q0:=q0) (q:=⟨ia,q0.oa,q0.m+1,q0.n,ic,q0.oc,S.insW q0.ids sp (S.sha (S.encS z.o)),q0.zs⟩) rfl rfl hgr rfl ?_;refine run ?_;refine J.ncP rfl hpb rfl ?_;refine J.flP rfl hpb rfl ?_;refine run ?_;refine J.stGf (f:=fun g:GrA=>grC g) (o:=1) (q0:=⟨ia,q0.oa,q0.m+1,q0.n,ic,q0.oc,S.insW q0.ids sp (S.sha (S.encS z.o)),q0.zs⟩) (q:=⟨ia,oa,q0.m+1,q0.n+1,ic,oc,S.insW q0.ids sp (S.sha (S.encS z.o)),(q0.zs.take sp++(⟨z.o,q.1,q.2⟩:OpA)::q0.zs.drop sp)⟩) rfl rfl (hsg1 ia ic) rfl ?_;rw[List.set_set,Int.toNat_natCast rr];refine run ?_;refine J.re (.gown idC 32 24 ia (q0.m+1) ic (ids.take sp++(⟨S.sha (S.encS z.o),hA.1⟩:IdV)::ids.drop sp)) (.wown 24 .u8 32 ia (q0.m+1) ic (S.insW q0.ids sp (S.sha (S.encS z.o)))) (fun _ _ h=>hcv▸gown_wown (hcv.symm▸hbd) h) ?_;refine J.front (.blk b6 [.slice pa s.pn pc, .slice none 0 0, .int .i64 (s.ver+1)] 53) ?_;refine J.front (.all ((gs.map grAll).eraseIdx rr)) ?_;refine J.front (.gown (fun g:GrA=>grC g) 2 43 pa s.pn pc (gs.set rr ⟨ia,oa,q0.m+1,q0.n+1,ic,oc,S.insW q0.ids sp (S.sha (S.encS z.o)),(q0.zs.take sp++(⟨z.o,q.1,q.2⟩:OpA)::q0.zs.drop sp)⟩)) ?_;refine J.front (.wown 24 .u8 32 ia (q0.m+1) ic (S.insW q0.ids sp (S.sha (S.encS z.o)))) ?_;refine J.front (.all (q0.zs.map (opE 24))) ?_;refine J.front (.gown opC 11 37 oa (q0.n+1) oc (q0.zs.take sp++(⟨z.o,q.1,q.2⟩:OpA)::q0.zs.drop sp)) ?_;exact J.cut ((ia,ic),(oa,oc)) trivial (by kernel_rfl) trivial
  exact J.gbr0
 obtain⟨⟨ia,ic⟩,oa,oc⟩:=u;dsimp only;have hHH:=H.hr;obtain⟨hl0,hh1,hh2⟩:=chunks s.hn s.hs hhl;have hAh:∀y∈hl0,Arr .u8 32 y.xs:=fun y hy=>⟨y.h,fun v hv=>hHH.bd v (by rw[←hh2];unfold flatI;exact List.mem_flatMap.2 ⟨y,hy,hv⟩)⟩
 obtain⟨hf1,hf2⟩:=kp_filter z.o hh2 s.hn (by omega);rw[List.take_of_length_le (by omega)]at hf1 hf2;have hf1:flatI (hl0.filter (kpB z.o))=S.kpI z.o s.hn s.hs:=hf1.symm;have hf2:(hl0.filter (kpB z.o)).length=S.kpN z.o s.hn s.hs:=hf2.symm;have hfb:Bd .u8 (flatI (hl0.filter (kpB z.o))):=fun v hv=>by
  unfold flatI at hv;obtain⟨y,hy,hyv⟩:=List.mem_flatMap.1 hv;exact(hAh y (List.mem_filter.1 hy).1).2 v hyv
 have hkb:Bd .u8 (S.kpI z.o s.hn s.hs):=hf1▸hfb;obtain⟨kn,hkn0⟩:=ex (S.kpN z.o s.hn s.hs);obtain⟨kI,hkI0⟩:=ex (S.kpI z.o s.hn s.hs);rw[←hkn0,←hkI0]at ke1 ke2;rw[←hkn0]at hkn' hf2⊢;rw[←hkI0]at hf1 hkb⊢;obtain⟨kl,hk1,hk2⟩:=chunks kn kI ke1;refine run ?_;refine J.call rfl rfl (fun w' M=>cloneW _ _ _ _ w' (hHH.ext M.ext) hcp.2.1 (by omega)) fun qh hqh=>?_
 refine run ?_;refine J.fn rfl rfl rfl ?_;refine J.re (.wown 24 .u8 32 qh.1 s.hn qh.2 s.hs) (.gown idC 32 24 qh.1 s.hn qh.2 hl0) (fun _ _ h=>wown_gown hh2 hh1 h) ?_
 refine J.callG rfl (fun w' M hO' => by
  obtain ⟨S1, S2, h1, h2, h3⟩ := M.two (.gown idC 32 24 qh.1 s.hn qh.2 hl0) (.wown 24 .u8 32 q.1 z.o.n q.2 z.o.ids)
  obtain ⟨S3, S4, g1, g2, g3⟩ := M.two (.gown idC 32 24 qh.1 s.hn qh.2 hl0) (.blk b2 (opC ⟨z.o, q.1, q.2⟩) 37)
  exact delPut2 (S1 := S2) qh.1 s.hn qh.2 hl0 ⟨z.o, q.1, q.2⟩ b2 _ w' hO' (by omega) hAh (blk_e g3).2 (fun he => g1 b2 ((gown_e g2).2 _ he) (blk_e g3).1) (wown_row h3) (fun x hx he => h1 x ((gown_e h2).2 _ he) hx) (by show z.o.n ≤ 1000; omega)) fun ha' hc' => ?_
 rw[show(hl0.filter (kpB (OpA.o ⟨z.o,q.1,q.2⟩))).length=kn from hf2];refine run ?_;refine J.re (.gown idC 32 24 ha' kn hc' (hl0.filter (kpB (OpA.o ⟨z.o,q.1,q.2⟩)))) (.wown 24 .u8 32 ha' kn hc' kI) (fun _ _ h=>hf1▸gown_wown hfb h) ?_;refine run ?_;refine J.callp rfl rfl (fun w' M=>(RW.own' (a:=ha') w' M).elim fun _ k0=>bsID _ _ _ _ _ w' k0 hA ke2 (by omega)) ?_;obtain⟨sq,hsq⟩:=ex (S.spotS kn kI (S.sha (S.encS z.o)));rw[←hsq];have hsql:sq≤kn:=by rw[hsq];exact S.spotC_le _ _
 have hkil:(kl.take sq++(⟨S.sha (S.encS z.o),hA.1⟩:IdV)::kl.drop sq).length=kn+1:=by simp;omega
 have hkcv:flatI (kl.take sq++(⟨S.sha (S.encS z.o),hA.1⟩:IdV)::kl.drop sq)=S.insW kI sq (S.sha (S.encS z.o)):=by rw[flatI_ins,hk2]
 have hkbd:Bd .u8 (S.insW kI sq (S.sha (S.encS z.o))):=ins_bd hkb hA.2;refine run ?_;refine J.b1G idC ⟨S.sha (S.encS z.o),hA.1⟩ idC_len rfl rfl rfl fun bx=>?_
 refine J.re (.wown 24 .u8 32 ha' kn hc' kI) (.gown idC 32 24 ha' kn hc' kl) (fun _ _ h=>wown_gown hk2 hk1 h) ?_
 refine J.callG rfl (fun w' M hO' => insId0 ha' kn hc' kl sq ⟨S.sha (S.encS z.o), hA.1⟩ bx w' hO' hsql (by omega) (let ⟨_, _, k⟩ := M.get (GO.h (a := some ⟨bx, 0, none⟩) (some ⟨bx, 0, none⟩) 1 1 [(⟨S.sha (S.encS z.o), hA.1⟩ : IdV)]).same; gown_one (gown_e k).1) (fun he => by
  obtain ⟨S1, S2, h1, h2, h3⟩ := M.two (.gown idC 32 24 ha' kn hc' kl) (.gown idC 32 24 (some ⟨bx, 0, none⟩) 1 1 [(⟨S.sha (S.encS z.o), hA.1⟩ : IdV)])
  exact h1 bx ((gown_e h2).2 _ he) ((gown_e h3).2 _ rfl))) fun h2a h2c => ?_
 rw[hkil];refine run ?_;refine J.re (.gown idC 32 24 h2a (kn+1) h2c (kl.take sq++(⟨S.sha (S.encS z.o),hA.1⟩:IdV)::kl.drop sq)) (.wown 24 .u8 32 h2a (kn+1) h2c (S.insW kI sq (S.sha (S.encS z.o)))) (fun _ _ h=>hkcv▸gown_wown (hkcv.symm▸hkbd) h) ?_;refine run ?_;refine J.regionR [.blk b6 [.slice pa s.pn pc, .slice h2a (kn+1) h2c, .int .i64 (s.ver+1)] 53, .blk b5 (ints .u8 (S.sha (S.encS z.o))) 24] [(0, .q),(1, .q),(2, .e),(3, .e),(4, .q)] mixed (by kernel_rfl) (by repeat(first|exact List.Sublist.refl _|refine List.Sublist.cons_cons _ ?_|refine List.Sublist.cons _ ?_)) ?_;refine run ?_;have hzlen:q0.zs.length=g.m:=by omega
 refine J.re (.all (q0.zs.map (opE 24))) (.all (((q0.zs.take sp++(⟨z.o,q.1,q.2⟩:OpA)::q0.zs.drop sp).map (opE 24)).eraseIdx sp)) (fun _ _ h=>by rw[erase_mid _ _ _ (by omega)];exact h) ?_;refine J.re (.wown 24 .u8 32 q.1 z.o.n q.2 z.o.ids) (opE 24 ⟨z.o,q.1,q.2⟩) (fun _ _ h=>h) ?_;refine J.shutA ((q0.zs.take sp++(⟨z.o,q.1,q.2⟩:OpA)::q0.zs.drop sp).map (opE 24)) sp (opE 24 ⟨z.o,q.1,q.2⟩) (by rw[List.length_map];omega) ?_;refine J.re (.all (((q0.zs.take sp++(⟨z.o,q.1,q.2⟩:OpA)::q0.zs.drop sp).map (opE 24)).set sp (opE 24 ⟨z.o,q.1,q.2⟩))) (.all ((q0.zs.take sp++(⟨z.o,q.1,q.2⟩:OpA)::q0.zs.drop sp).map (opE 24))) (fun _ _ h=>by rw[set_midE _ _ _ (by omega)]at h;exact h) ?_;refine J.triG (⟨ia,oa,q0.m+1,q0.n+1,ic,oc,S.insW q0.ids sp (S.sha (S.encS z.o)),q0.zs.take sp++(⟨z.o,q.1,q.2⟩:OpA)::q0.zs.drop sp⟩:GrA) ?_;refine J.shutA (gs.map grAll) rr (grAll (⟨ia,oa,q0.m+1,q0.n+1,ic,oc,S.insW q0.ids sp (S.sha (S.encS z.o)),q0.zs.take sp++(⟨z.o,q.1,q.2⟩:OpA)::q0.zs.drop sp⟩:GrA)) (by rw[List.length_map];omega) ?_;rw[←List.map_set];refine J.front (.wown 24 .u8 32 h2a (kn+1) h2c (S.insW kI sq (S.sha (S.encS z.o)))) ?_;refine J.front (.all ((gs.set rr (⟨ia,oa,q0.m+1,q0.n+1,ic,oc,S.insW q0.ids sp (S.sha (S.encS z.o)),q0.zs.take sp++(⟨z.o,q.1,q.2⟩:OpA)::q0.zs.drop sp⟩:GrA)).map grAll)) ?_;refine J.front (.gown (fun g:GrA=>grC g) 2 43 pa s.pn pc (gs.set rr (⟨ia,oa,q0.m+1,q0.n+1,ic,oc,S.insW q0.ids sp (S.sha (S.encS z.o)),q0.zs.take sp++(⟨z.o,q.1,q.2⟩:OpA)::q0.zs.drop sp⟩:GrA))) ?_;refine J.finG ⟨pa,s.pn,pc,gs.set rr (⟨ia,oa,q0.m+1,q0.n+1,ic,oc,S.insW q0.ids sp (S.sha (S.encS z.o)),q0.zs.take sp++(⟨z.o,q.1,q.2⟩:OpA)::q0.zs.drop sp⟩:GrA),h2a,kn+1,h2c,S.insW kI sq (S.sha (S.encS z.o)),s.ver+1⟩ rfl ⟨?_,?_⟩ sb
 ·unfold ShA.V;dsimp only;rw[hgP,hsq];refine shEq (set_map hps ?_) rfl rfl rfl;unfold GrA.P S.putP GrA.ops;dsimp only;rw[insO_map,hq0m,hq0i,hsp];have e:=hq0o;unfold GrA.ops at e;rw[e]
 intro u hu;rcases List.mem_or_eq_of_mem_set hu with h|rfl
 ·exact hpk u h
 refine⟨fun y hy=>?_,fun y hy=>?_⟩
 ·rcases List.mem_append.1 hy with k|k
  ·exact hq0k.ok y (List.mem_of_mem_take k)
  rcases List.mem_cons.1 k with rfl|k
  ·exact R.ok
  exact hq0k.ok y (List.mem_of_mem_drop k)
 rcases List.mem_append.1 hy with k|k
 ·exact hq0k.cap y (List.mem_of_mem_take k)
 rcases List.mem_cons.1 k with rfl|k
 ·exact hq
 exact hq0k.cap y (List.mem_of_mem_drop k)
end W
namespace S
open G
/-! ### the index that a graph makes -/
theorem ok_made{g:PG}{n:Nat}(hg:g.fine)(hn:1≤n∧n≤4):okR (madeS g n)∧whole (madeS g n).ps=g:=by
 have hgp:=made_good (n:=n) hg.good hg.rising;have e:whole (madeS g n).ps=g:=(whole_mrg hgp).eq (made_mrg hg.good hg.rising (by omega));refine⟨(ok_iff fun p hp=>(hgp.mem hp).1.1).2 ⟨by rw[made_len];exact hn,hgp,?_,?_,?_⟩,e⟩
 ·rw[e];exact(chkP_fine hg.good.1).2 hg
 ·rw[e];rfl
 ·rw[e];rfl
theorem sm_one{P:Nat→Prop}[DecidablePred P]:∀ {n:Nat},(∀i,i<n→∀j,j<n→P i→P j→i=j)→sm (fun i=>if P i then 1 else 0) n≤1
 |0,_=>Nat.zero_le _
 |n+1,h=>by
  have ih:=sm_one (n:=n) fun i hi j hj=>h i (by omega) j (by omega);rw[sm];by_cases hp:P n
  ·have e:sm (fun i=>if P i then 1 else 0) n=0:=by
    rw[sm_congr (g:=fun _=>0) fun i hi=>if_neg fun hi'=>absurd (h i (by omega) n (by omega) hi' hp) (by omega),sm_zero]
   rw[e,if_pos hp];exact Nat.le_refl _
  ·rw[if_neg hp];exact ih
theorem numF_sm(f:Nat→Bool):∀n,numF f n=sm (fun i=>if f i=true then 1 else 0) n
 |0=>rfl
 |n+1=>by rw[numF,sm,numF_sm f n]
theorem sm_ones:∀n,sm (fun _=>1) n=n
 |0=>rfl
 |n+1=>by rw[sm,sm_ones n]
theorem allN_made{g:PG}{n:Nat}(hg:g.fine):allN (madeS g n).ps≤g.m:=by
 have e:allN (madeS g n).ps=sm (fun i=>sm (fun k=>if modF g n i k=true then 1 else 0) g.m) n:=by
  have h:=sm_all (madeS g n).ps _ (Nat.le_refl _);rw[List.take_length,made_len]at h;rw[←h];refine sm_congr fun i hi=>?_
  rw[made_at hi,prt_sel hg.good hg.rising,←numF_sm];rfl
 rw[e,sm_swap];refine Nat.le_trans (sm_le (g:=fun _=>1) fun k _=>sm_one (P:=fun i=>modF g n i k=true) fun i hi j hj h1 h2=>?_) (by rw[sm_ones];exact Nat.le_refl _);have h1:=of_decide_eq_true h1;have h2:=of_decide_eq_true h2;omega
/-! ### what Put makes of an index that a graph makes -/
theorem pu_made{g:PG}{n:Nat}{o:OpV}(hg:g.fine)(hn:1≤n∧n≤4):puE (madeS g n) o=addE g o∧puI (madeS g n) o=addI g o∧(addE g o=0→puS (madeS g n) o=madeS (addP g o) n):=by
 obtain⟨h1,h2⟩:=ok_made hg hn;refine⟨?_,?_,fun h=>?_⟩
 ·unfold puE;rw[if_pos h1,h2]
 ·unfold puI;rw[if_pos h1,h2]
 ·rw[(pu_0 h1 (by rw[h2];exact h)).2.1,h2,made_len]
/-! ### examples -/
def hxX:List Int:=[33,138,136,249,119,7,166,174,108,156,48,173,162,158,214,252,180,176,246,238,229,50,220,163,240,190,222,60,6,183,72,215]
def hxY:List Int:=[168,22,147,206,173,177,199,152,149,79,9,23,133,81,137,83,227,223,115,237,157,30,240,149,177,15,75,217,195,17,140,33]
def hxA:OpV:=⟨0,0,1,0,0,0,0,0,0,[], .empty, .empty⟩
def hxB:OpV:=⟨0,0,1,0,0,0,0,0,1,hxX, .empty, .empty⟩
def hxO:OpV:=⟨4,0,1,0,0,0,375582489,77644329,0,[], .empty, .empty⟩
def hxU:OpV:=⟨16,0,1,0,0,0,93193399,9377368,1,hxX, .empty, .empty⟩
theorem hx_x:sha (encS hxO)=hxX:=by decide+kernel
theorem hx_y:sha (encS hxU)=hxY:=by decide+kernel
theorem hx_arrX:Arr .u8 32 hxX:=hx_x▸sha_arr _
theorem hx_arrY:Arr .u8 32 hxY:=hx_y▸sha_arr _
theorem hx_arrZ:Arr .u8 32 (List.replicate 32 0):=⟨by simp,fun x hx=>by rw[List.mem_replicate]at hx;rw[hx.2];simp only[lim];omega⟩
theorem hx_pub1:pubS 1=4:=by decide+kernel
theorem hx_pub2:pubS 2=16:=by decide+kernel
theorem hx_non1:nonceS 1 (msgS (hxA.wit 1))=202061843:=by decide+kernel
theorem hx_non2:nonceS 2 (msgS (hxB.wit 2))=322990573:=by decide+kernel
theorem hx_r1:pubS 202061843=895319347:=by
 unfold pubS;rw[pw_fast _ _ _ (by decide) (by decide)];decide+kernel
theorem hx_r2:pubS 322990573=375399935:=by
 unfold pubS;rw[pw_fast _ _ _ (by decide) (by decide)];decide+kernel
theorem hx_e1:sigE 1 (msgS (hxA.wit 1))=375582489:=by
 unfold sigE;rw[hx_non1,hx_r1,hx_pub1];decide+kernel
theorem hx_e2:sigE 2 (msgS (hxB.wit 2))=93193399:=by
 unfold sigE;rw[hx_non2,hx_r2,hx_pub2];decide+kernel
theorem hx_s1:sigS 1 (msgS (hxA.wit 1))=77644329:=by
 unfold sigS;rw[hx_non1,hx_e1];decide
theorem hx_s2:sigS 2 (msgS (hxB.wit 2))=9377368:=by
 unfold sigS;rw[hx_non2,hx_e2];decide
theorem hx_signE1:signE 1 hxA=0:=signE_zero.2 ⟨by decide,check_zero.2 ⟨(by decide:(0:Nat)≤4),rising_nil,isG_pub 1 (by decide),(by decide:(0:Int)≤1000000000000),(by decide:(0:Int)<500000003),(by decide:(0:Int)<500000003), .inl ⟨rfl,rfl,rfl,rfl,rfl,rfl⟩⟩⟩
theorem hx_signE2:signE 2 hxB=0:=signE_zero.2 ⟨by decide,check_zero.2 ⟨(by decide:(1:Nat)≤4),fun j hj=>absurd hj (Nat.not_lt_zero _),isG_pub 2 (by decide),(by decide:(0:Int)≤1000000000000),(by decide:(0:Int)<500000003),(by decide:(0:Int)<500000003), .inl ⟨rfl,rfl,rfl,rfl,rfl,rfl⟩⟩⟩
theorem hx_sign1:signS 1 hxA=hxO:=by
 unfold signS;rw[if_pos hx_signE1,hx_e1,hx_s1];unfold OpV.wit;rw[hx_pub1];rfl
theorem hx_sign2:signS 2 hxB=hxU:=by
 unfold signS;rw[if_pos hx_signE2,hx_e2,hx_s2];unfold OpV.wit;rw[hx_pub2];rfl
theorem hx_okA:hxA.ok:=⟨by decide,by decide,by decide,by decide,by decide,by decide,by decide,by decide,by decide,by decide,by decide⟩
theorem hx_okB:hxB.ok:=⟨by decide,by decide,by decide,by decide,by decide,by decide,by decide,by decide,by decide,by decide,by decide⟩
theorem hx_okO:hxO.ok:=⟨by decide,by decide,by decide,by decide,by decide,by decide,by decide,by decide,by decide,by decide,by decide⟩
theorem hx_okU:hxU.ok:=⟨by decide,by decide,by decide,by decide,by decide,by decide,by decide,by decide,by decide,by decide,by decide⟩
theorem hx_verO:verE hxO=0:=by
 have:=(sign_good hx_okA rfl hx_signE1).2.2.2.2.2.2;rwa[hx_sign1]at this
theorem hx_verU:verE hxU=0:=by
 have:=(sign_good hx_okB rfl hx_signE2).2.2.2.2.2.2;rwa[hx_sign2]at this
noncomputable def hxG:PG:=addP .nil hxO
noncomputable def hxH:PG:=addP hxG hxU
theorem hx_chk:chkP PG.nil=0:=(chkP_fine rfl).2 nil_fine
theorem hx_add1:addE .nil hxO=0:=addE_0 hx_chk hx_verO (nil_in _) (fun j hj=>absurd hj (Nat.not_lt_zero _)) (by decide)
theorem hx_id1:addI .nil hxO=hxX:=by rw[(addP_yes hx_add1).2];exact hx_x
theorem hx_f1:PG.nil.fine∧¬inS PG.nil.m PG.nil.ids (idOf hxO)∧hxG.fine∧hxG.m=PG.nil.m+1∧addI PG.nil hxO=idOf hxO∧∀y u,hxG.has y u↔PG.nil.has y u∨(y=idOf hxO∧u=hxO):=add_fine rfl hx_add1
theorem hx_m1:hxG.m=1:=hx_f1.2.2.2.1
theorem hx_in1(y:List Int):inS hxG.m hxG.ids y↔y=hxX:=by
 rw[has_in];constructor
 ·rintro⟨o,ho⟩;rcases(hx_f1.2.2.2.2.2 y o).1 ho with h|h
  ·exact absurd h (nil_has _ _)
  ·rw[h.1];exact hx_x
 ·rintro rfl;exact⟨hxO,(hx_f1.2.2.2.2.2 _ _).2 (.inr ⟨hx_x.symm,rfl⟩)⟩
theorem hx_ne:hxY≠hxX:=by decide
theorem hx_add2:addE hxG hxU=0:=by
 refine addE_0 ((chkP_fine hx_f1.2.2.1.good.1).2 hx_f1.2.2.1) hx_verU (fun h=>?_) (fun j hj=>?_) (by rw[hx_m1];decide)
 ·have h:=(hx_in1 _).1 h;rw[show idOf hxU=hxY from hx_y]at h;exact hx_ne h
 ·have hj:j<1:=hj;obtain rfl:j=0:=by omega
  exact(hx_in1 _).2 rfl
theorem hx_id2:addI hxG hxU=hxY:=by rw[(addP_yes hx_add2).2];exact hx_y
theorem hx_f2:hxG.fine∧¬inS hxG.m hxG.ids (idOf hxU)∧hxH.fine∧hxH.m=hxG.m+1∧addI hxG hxU=idOf hxU∧∀y u,hxH.has y u↔hxG.has y u∨(y=idOf hxU∧u=hxU):=add_fine hx_f1.2.2.1.good.1 hx_add2
theorem hx_m2:hxH.m=2:=by
 have h:hxH.m=hxG.m+1:=hx_f2.2.2.2.1;rw[h,hx_m1]
theorem hx_inY:inS hxH.m hxH.ids hxY:=has_in.2 ⟨hxU,(hx_f2.2.2.2.2.2 _ _).2 (.inr ⟨hx_y.symm,rfl⟩)⟩
theorem hx_heads:hdN hxH=1∧hdI hxH=hxY:=by
 obtain⟨h1,h2,h3⟩:=hd_all hx_f2.2.2.1;refine idsG_ext h1 (by decide) h2 (fun i hi=>absurd hi (Nat.not_lt_zero _)) fun y=>(h3 y).trans ⟨fun⟨⟨i,hi,e⟩,hn⟩=>?_,fun⟨i,hi,e⟩=>?_⟩
 ·obtain⟨u,hu⟩:=has_in.1 ⟨i,hi,e⟩;rcases(hx_f2.2.2.2.2.2 y u).1 hu with k|⟨k,_⟩
  ·have hy:=(hx_in1 y).1 (has_in.2 ⟨u,k⟩);refine absurd ?_ (hn _ hxU ((hx_f2.2.2.2.2.2 _ _).2 (.inr ⟨rfl,rfl⟩)));rw[hy];exact⟨0,by decide,by decide⟩
  ·rw[k,show idOf hxU=hxY from hx_y];exact⟨0,by decide,by decide⟩
 ·have hy:hxY=y:=by
   obtain rfl:i=0:=by omega
   rw[←e];decide
  rw[←hy];refine⟨hx_inY,fun x u hu=>?_⟩;rcases(hx_f2.2.2.2.2.2 x u).1 hu with k|⟨_,rfl⟩
  ·rcases(hx_f1.2.2.2.2.2 x u).1 k with k|⟨_,rfl⟩
   ·exact absurd k (nil_has x u)
   ·exact inS_zero
  ·rintro⟨j,hj,ej⟩;have:hxU.n=1:=rfl;obtain rfl:j=0:=by omega
   exact absurd ej (by decide)
theorem hx_put1:puE (madeS .nil 4) hxO=0∧puI (madeS .nil 4) hxO=hxX∧puS (madeS .nil 4) hxO=madeS hxG 4:=by
 obtain⟨a,b,c⟩:=pu_made (o:=hxO) nil_fine (n:=4) (by decide);exact⟨a.trans hx_add1,b.trans hx_id1,c hx_add1⟩
theorem hx_put2:puE (madeS hxG 4) hxU=0∧puI (madeS hxG 4) hxU=hxY∧puS (madeS hxG 4) hxU=madeS hxH 4:=by
 obtain⟨a,b,c⟩:=pu_made (o:=hxU) hx_f1.2.2.1 (n:=4) (by decide);exact⟨a.trans hx_add2,b.trans hx_id2,c hx_add2⟩
theorem hx_tell:hdL (madeS hxH 4)=hxY∧hdV (madeS hxH 4)=2∧chkH (madeS hxH 4)=0:=by
 obtain⟨h1,h2⟩:=ok_made (n:=4) hx_f2.2.2.1 (by decide);obtain⟨a,b⟩:=hd_0 h1;refine⟨a.trans hx_heads.2,b.trans ?_,chkH_0 h1⟩;show((hxH.m:Nat):Int)=2;rw[hx_m2];rfl
theorem hx_num:nbO (madeS .nil 4) (7::List.replicate 31 0)=3∧chkH (madeS .nil 4)=0:=by
 obtain⟨h1,_⟩:=ok_made (n:=4) nil_fine (by decide);exact⟨by rw[nb_0 h1,made_len];rfl,chkH_0 h1⟩
end S
namespace W
open Go.RowKit G
section
variable{S0:Nat→Prop}{w0:World}{L:List Ent}{P:Program}{ops:Array Oper}{K:List Value→World→Prop}{rest:List (Oper×Kd)}{l l':List Value}{m:Md}{d:Tmp}{ty xt e:TypeId}{pos:String}{af:Array Edge}{kd:Kd}{n sz by_:Nat}{z:List Value}
theorem J.bI{parts:Array (Nat×Operand)}(k:IntKind)(zs:List Int)(ps:List (Nat×Int))(xs:List Int)[U:Und P xt (.array n e)][I:Inf P xt sz by_ z][Z:Siz P e 1](hk:pureK kd=true)(hz:z=ints k zs)(hv:parts.toList.map (fun p=>(p.1,ev l p.2))=ps.map fun p=>(p.1,Value.int k p.2))(hx:ps.foldl (fun z p=>z.set p.1 p.2) zs=xs)(kk:J S0 w0 L (RY S0 w0 m P ops K rest l'))(hb:∀p∈ps,p.1<zs.length:=by decide)(hl:l.set d (.agg (ints k xs).toArray)=l':=by dsimp only[List.set]):
  J S0 w0 L (RY S0 w0 m P ops K ((⟨some d, .build xt parts,ty,pos,af,none⟩,kd)::rest) l):=
 J.pur hk (fun w => by
  subst hz hx
  exact D.buildI U.h I.h Z.h hv hb) kk hl
end
end W
namespace W
open Go.RowKit G
set_option maxRecDepth 20000
set_option maxHeartbeats 8000000
attribute [local irreducible] RS RX RY Code.wp bodyPost J Ent.blk Ent.iown Ent.wrow Ent.wown Ent.gown Ent.all Ent.emp
instance:SInf prog 33 [(0,1),(1,1),(2,4)]:=⟨_,underlying33,by kernel_rfl,by kernel_rfl⟩
instance:Inf prog 33 6 64 [.int .u8 0, .string .empty, .int .u8 0, .int .i64 0, .int .u64 0, .string .empty]:=⟨TI.of (v:= .agg #[.int .u8 0, .string .empty, .int .u8 0, .int .i64 0, .int .u64 0, .string .empty]) (by kernel_rfl) rfl⟩
instance:Ents prog 96:=⟨.mk func96 (by kernel_rfl) rfl⟩
instance:Ents prog 63:=⟨.mk func63 (by kernel_rfl) rfl⟩
instance:Ents prog 72:=⟨.mk func72 (by kernel_rfl) rfl⟩
instance:Ents prog 65:=⟨.mk func65 (by kernel_rfl) rfl⟩
instance:Ents prog 64:=⟨.mk func64 (by kernel_rfl) rfl⟩
instance:Ents prog 70:=⟨.mk func70 (by kernel_rfl) rfl⟩
theorem signH(x:Int)(hx:0≤x∧x<4294967296){S0:Nat→Prop}(z:OpA)(TK:TypeId)(w:World)(K0:Kst w TK)(R:OpR S0 w z):
  Calls prog 96 #[.int .u32 x, .agg (opC z).toArray] w (Gv w (fun q:OpA×Int=> .tuple #[.agg (opC q.1).toArray, .int .i64 q.2]) (fun q=>[.wrow .u8 32 q.1.pa q.1.o.n q.1.o.ids]) fun q=>q.1.o.n≤q.1.pc∧q.1.o=S.signS x z.o∧q.2=S.signE x z.o):=
 Gv.of (signO x hx z.o R.ok _ _ TK w K0 R.row R.cap) fun v w' _ ⟨a',c',hv,hc,W⟩=>⟨(⟨S.signS x z.o,a',c'⟩,S.signE x z.o),hv,⟨hc,rfl,rfl⟩,sep1 (show(Ent.wrow .u8 32 a' (S.signS x z.o).n (S.signS x z.o).ids).ok _ _ by unfold Ent.wrow;exact W)⟩
theorem shSigned(x:Int)(hx:0≤x∧x<4294967296){S0:Nat→Prop}(a:Option Addr)(n c:Nat)(ids:List Int)(TK:TypeId)(w:World)(K0:Kst w TK)(hok:(⟨0,0,1,0,0,0,0,0,n,ids, .empty, .empty⟩:S.OpV).ok)(D0:WRow .u8 32 S0 w a n ids)(hc:n≤c):
  Calls prog 65 #[.int .u32 x, .slice a n c] w (Gv w (fun q:OpA=> .agg (opC q).toArray) (fun q=>[.wrow .u8 32 q.pa q.o.n q.o.ids]) fun q=>q.o.n≤q.pc∧q.o=S.signS x ⟨0,0,1,0,0,0,0,0,n,ids, .empty, .empty⟩):=by
 refine J.enter 14 func65 rfl rfl ?_;refine run ?_;refine J.alloc rfl fun b1=>?_
 refine run ?_;refine J.call rfl rfl (fun w' M=>signH x hx ⟨⟨0,0,1,0,0,0,0,0,n,ids, .empty, .empty⟩,a,c⟩ TK w' (K0.ext M.ext) ⟨hok,D0.ext M.ext,hc⟩) fun q hq=>?_
 refine run ?_;refine J.alloc rfl fun b2=>?_
 refine run ?_;exact J.finG q.1 rfl ⟨hq.1,hq.2.1⟩ sb
theorem shA(TK:TypeId)(w:World)(K0:Kst w TK):Calls prog 65 #[.int .u32 1, .slice none 0 0] w (Gv w (fun q:Option Addr×Nat=> .agg (opC ⟨S.hxO,q.1,q.2⟩).toArray) (fun q=>[.wrow .u8 32 q.1 0 []]) fun _=>True):=
 (shSigned (S0:=no) 1 (by decide) none 0 0 [] TK w K0 S.hx_okA WRow.nil (Nat.le_refl _)).mono fun _ w' ⟨⟨o,pa,pc⟩,h1,⟨hc,e⟩,h3,h4⟩=>by
  obtain rfl:o=S.hxO:=e.trans S.hx_sign1;exact⟨(pa,pc),h1,trivial,h3,h4⟩
theorem shB{S0:Nat→Prop}(a:Option Addr)(TK:TypeId)(w:World)(K0:Kst w TK)(D0:WRow .u8 32 S0 w a 1 S.hxX):Calls prog 65 #[.int .u32 2, .slice a 1 1] w (Gv w (fun q:Option Addr×Nat=> .agg (opC ⟨S.hxU,q.1,q.2⟩).toArray) (fun q=>[.wrow .u8 32 q.1 1 S.hxX]) fun q=>1≤q.2):=
 (shSigned 2 (by decide) a 1 1 S.hxX TK w K0 S.hx_okB D0 (Nat.le_refl _)).mono fun _ w' ⟨⟨o,pa,pc⟩,h1,⟨hc,e⟩,h3,h4⟩=>by
  obtain rfl:o=S.hxU:=e.trans S.hx_sign2;exact⟨(pa,pc),h1,hc,h3,h4⟩
theorem ShK.L{g:S.PG}{n:Nat}{q:ShA}(h:ShK (S.madeS g n) q)(hg:g.fine):ShL q:=fun _=>by
 have e:q.V.ps=(S.madeS g n).ps:=congrArg S.ShV.ps h.V;rw[e];exact Nat.le_trans (S.allN_made hg) (Nat.le_trans hg.le (by decide))
theorem putX{S0 S1:Nat→Prop}(q:ShA)(v:S.ShV)(o:S.OpV)(pa:Option Addr)(pc:Nat)(TK:TypeId)(w:World)(K0:Kst w TK)(hv:q.V=v)(H:ShR S0 w q)(hL:ShL q)(ho:o.ok)(D:WRow .u8 32 S1 w pa o.n o.ids)(hc:o.n≤pc){u:S.ShV}{x:List Int}{e:Int}(h1:S.puE v o=e)(h2:S.puI v o=x)(h3:S.puS v o=u):
  Calls prog 64 #[.agg (shC q).toArray, .agg (opC ⟨o,pa,pc⟩).toArray] w (Gv w (fun r:ShA=> .tuple #[.agg (shC r).toArray, .agg (ints .u8 x).toArray, .int .i64 e]) (fun r=>shE r) (ShK u)):=by
 have h:=shPut q ⟨o,pa,pc⟩ TK w K0 H hL ⟨ho,D,hc⟩;dsimp only at h;rw[hv,h1,h2,h3]at h;exact h
theorem sB{L:List Ent}{w:World}{TK:TypeId}{F:Option Addr→Nat→Nat→List Int→List Ent}(b:Nat)(K0:Kst w TK)[R:RWO L (some ⟨b,0,none⟩) 24 .u8 32 1 1 S.hxX F](w':World)(M:Mem no w L w'):Calls prog 65 #[.int .u32 2, .slice (some ⟨b,0,none⟩) 1 1] w' (Gv w' (fun q:Option Addr×Nat=> .agg (opC ⟨S.hxU,q.1,q.2⟩).toArray) (fun q=>[.wrow .u8 32 q.1 1 S.hxX]) fun q=>1≤q.2):=
 (RW.own' (a:=some ⟨b,0,none⟩) w' M).elim fun _ k0=>shB _ TK w' (K0.ext M.ext) k0
def shW(s:ShA):Ent:= .all (shE s)
theorem ShR.ownB{S0:Nat→Prop}{w0:World}{L:List Ent}{s:ShA}{F:Ent→List Ent}[R:RE L (shW s) F](hk:∀g∈s.gs,GrK g)(hm:∀g∈s.gs,g.m≤70∧g.ops.length≤70)(hz:s.gs.length≤6∧s.hn≤100)(w:World)(M:Mem S0 w0 L w):ShR (fun _=>True) w s:=by
 obtain⟨S',_,h⟩:=M.get (R.h (shW s)).same;obtain⟨A,T,_,_,_,a,B,T2,_,_,_,c,C,T3,_,_,_,b,_⟩:=all_e h;have a:=(gown_e a).1;have b':=wown_row b;have hb:=(wown_len b).2;refine⟨a.row.weaken fun _ _ _=>trivial,fun g hg=>?_,b'.weaken fun _ _ _=>trivial,a.capn,hb,?_,hz.2⟩
 ·obtain⟨S',_,k⟩:=sep_mem (List.mem_map.2 ⟨g,hg,rfl⟩) (all_e c);exact grAll_r k (hk g hg) (hm g hg)
 have:=a.len;omega
theorem sP1{L:List Ent}{w:World}{TK:TypeId}(q:ShA)(z:Option Addr×Nat){F:Ent→List Ent}(K0:Kst w TK)(hq:ShK (S.madeS .nil 4) q)
  [R1:RE L (shW q) F][R4:RRW L z.1 .u8 32 0 []](w':World)(M:Mem no w L w'):Calls prog 64 #[.agg (shC q).toArray, .agg (opC ⟨S.hxO,z.1,z.2⟩).toArray] w' (Gv w' (fun r:ShA=> .tuple #[.agg (shC r).toArray, .agg (ints .u8 S.hxX).toArray, .int .i64 0]) (fun r=>[shW r]) (ShK (S.madeS S.hxG 4))):=
 (RW.row' (a:=z.1) w' M).elim fun _ k1=>(putX q _ S.hxO z.1 z.2 TK w' (K0.ext M.ext) hq.V (ShR.ownB hq.k (hq.sz (Nat.zero_le _) (by decide)).1 (hq.sz (Nat.zero_le _) (by decide)).2 w' M) (hq.L S.nil_fine) S.hx_okO k1 (Nat.zero_le _) S.hx_put1.1 S.hx_put1.2.1 S.hx_put1.2.2).mono fun _ _ ⟨r,h1,h2,h3,h4⟩=>⟨r,h1,h2,h3,sep1 (all_i h4)⟩
theorem sP2{L:List Ent}{w:World}{TK:TypeId}(q:ShA)(z:Option Addr×Nat){F:Ent→List Ent}(K0:Kst w TK)(hq:ShK (S.madeS S.hxG 4) q)(hz:1≤z.2)
  [R1:RE L (shW q) F][R4:RRW L z.1 .u8 32 1 S.hxX](w':World)(M:Mem no w L w'):Calls prog 64 #[.agg (shC q).toArray, .agg (opC ⟨S.hxU,z.1,z.2⟩).toArray] w' (Gv w' (fun r:ShA=> .tuple #[.agg (shC r).toArray, .agg (ints .u8 S.hxY).toArray, .int .i64 0]) (fun r=>[shW r]) (ShK (S.madeS S.hxH 4))):=by
 have s1:S.hxG.m≤70:=by rw[S.hx_m1];decide
 exact(RW.row' (a:=z.1) w' M).elim fun _ k1=>(putX q _ S.hxU z.1 z.2 TK w' (K0.ext M.ext) hq.V (ShR.ownB hq.k (hq.sz s1 (by decide)).1 (hq.sz s1 (by decide)).2 w' M) (hq.L S.hx_f1.2.2.1) S.hx_okU k1 hz S.hx_put2.1 S.hx_put2.2.1 S.hx_put2.2.2).mono fun _ _ ⟨r,h1,h2,h3,h4⟩=>⟨r,h1,h2,h3,sep1 (all_i h4)⟩
theorem hx_id7 : Arr .u8 32 ((7 : Int) :: List.replicate 31 0) := ⟨by simp, fun x hx => by
 rcases List.mem_cons.1 hx with rfl | h
 ·decide
 rw [List.eq_of_mem_replicate h]; decide⟩
theorem shAlive(TK:TypeId)(w:World)(K0:Kst w TK):Calls prog 73 #[] w (Ret w fun v _=>v= .bool true):=by
 have hX:=S.hx_arrX;have hY:=S.hx_arrY;have hZ:=S.hx_arrZ;have s2:S.hxH.m≤70:=by rw[S.hx_m2];decide
 refine J.enter 78 func73 rfl rfl ?_;refine run ?_;refine J.call rfl rfl (fun w' M=>shNew 4 w') fun q0 hq0=>?_
 have hq0:ShK (S.madeS .nil 4) q0:=hq0;refine J.pair (.gown (fun g:GrA=>grC g) 2 43 q0.pa q0.pn q0.pc q0.gs) (.all (q0.gs.map grAll)) ?_;refine J.snocA [.gown (fun g:GrA=>grC g) 2 43 q0.pa q0.pn q0.pc q0.gs, .all (q0.gs.map grAll)] (.wown 24 .u8 32 q0.ha q0.hn q0.hc q0.hs) ?_;refine J.re (.all ([.gown (fun g:GrA=>grC g) 2 43 q0.pa q0.pn q0.pc q0.gs, .all (q0.gs.map grAll)]++[.wown 24 .u8 32 q0.ha q0.hn q0.hc q0.hs])) (shW q0) (fun _ _ h=>by unfold shW;exact h) ?_;rw[show S.nwE 4=0 from rfl];refine run ?_;refine J.alloc rfl fun b1=>?_
 refine run ?_;refine J.bI .u8 (List.replicate 32 0) [(0,7)] (7::List.replicate 31 0) rfl rfl rfl rfl ?_;refine run ?_;have z0:=hq0.sz (Nat.zero_le _) (by decide);refine J.callp rfl rfl (fun w' M=>shNum q0 _ TK w' (K0.ext M.ext) (ShR.ownB hq0.k z0.1 z0.2 w' M) (hq0.L S.nil_fine) hx_id7) ?_;rw[hq0.V,S.hx_num.1,S.hx_num.2];refine run ?_;refine J.joinX (A:=ShA×Nat×Nat) (fun u=>[(5, .pointer (some ⟨u.2.1,0,none⟩)),(6, .pointer (some ⟨u.2.2,0,none⟩)),(7, .int .i64 0)]) [24,25,26,27,28,29,30] (fun u=>[.blk u.2.2 (ints .u8 S.hxX) 24, .blk u.2.1 (shC u.1) 53,shW u.1]) (fun u=>ShK (S.madeS S.hxG 4) u.1) ?_ (fun u j2 hu=>?_)
 ·refine J.regionW [.blk b1 (shC q0) 53] mixed ?_;refine J.wst (A:=ShA×Nat×Unit) (fun p=>[(5, .pointer (some ⟨p.2.1,0,none⟩)),(25, .agg (shC q0).toArray),(27, .tuple #[.agg (shC p.1).toArray, .agg (ints .u8 S.hxX).toArray, .int .i64 0]),(28, .agg (shC p.1).toArray),(29, .agg (ints .u8 S.hxX).toArray),(30, .int .i64 0)]) [24,26] (fun p=>[.blk p.2.1 [.slice none 0 0, .slice none 0 0, .int .i64 0] 53,shW p.1, .blk b1 (shC q0) 53,shW q0]) (fun p=>ShK (S.madeS S.hxG 4) p.1∧True) 4 (bs 12 255) (fun p j hp=>?_) (fun st0=>?_)
  ·obtain⟨q,bg,_⟩:=p;obtain⟨hq,_⟩:=hp
   try dsimp only
   try dsimp only at hq
   refine J.wfin [(8, .e),(9, .e),(10, .e),(11, .q)] (by kernel_rfl) ?_;refine run ?_;refine J.alloc rfl fun bi=>?_
   refine run ?_;refine run ?_;refine run ?_;refine J.front (.blk bg (shC q) 53) ?_;refine J.front (.blk bi (ints .u8 S.hxX) 24) ?_;exact J.cut (q,bg,bi) ⟨rfl,rfl,rfl,trivial⟩ (by kernel_rfl) hq
  refine J.wst (A:=ShA×Nat×Unit) (fun p=>[(6, .pointer (some ⟨p.2.1,0,none⟩)),(25, .agg (shC q0).toArray),(27, .tuple #[.agg (shC p.1).toArray, .agg (ints .u8 S.hxX).toArray, .int .i64 0]),(28, .agg (shC p.1).toArray),(29, .agg (ints .u8 S.hxX).toArray),(30, .int .i64 0)]) [24,26] (fun p=>[.blk p.2.1 (ints .u8 (List.replicate 32 0)) 24,shW p.1, .blk b1 (shC q0) 53,shW q0]) (fun p=>ShK (S.madeS S.hxG 4) p.1∧True) 4 (bs 12 383) (fun p j hp=>?_) (fun st1=>?_)
  ·obtain⟨q,bi,_⟩:=p;obtain⟨hq,_⟩:=hp
   try dsimp only
   try dsimp only at hq
   refine J.wfin [(7, .e),(9, .e),(10, .e),(11, .q)] (by kernel_rfl) ?_;refine run ?_;refine J.alloc rfl fun bg=>?_
   refine run ?_;refine run ?_;refine run ?_;refine J.front (.blk bg (shC q) 53) ?_;refine J.front (.blk bi (ints .u8 S.hxX) 24) ?_;exact J.cut (q,bg,bi) ⟨rfl,rfl,rfl,trivial⟩ (by kernel_rfl) hq
  refine J.wst (A:=ShA×Unit) (fun p=>[(25, .agg (shC q0).toArray),(27, .tuple #[.agg (shC p.1).toArray, .agg (ints .u8 S.hxX).toArray, .int .i64 0])]) [26] (fun p=>[shW p.1, .blk b1 (shC q0) 53,shW q0]) (fun p=>ShK (S.madeS S.hxG 4) p.1∧True) 9 (bs 12 7) (fun p j hp=>?_) (fun st2=>?_)
  ·obtain⟨q,_⟩:=p;obtain⟨hq,_⟩:=hp
   try dsimp only
   try dsimp only at hq
   refine J.wnode [(3, .q),(4, .q),(5, .q),(6, .q)] [7,8] 4 (bs 12 127) (by kernel_rfl) ?_;refine run ?_;refine J.nil ?_;refine J.wbr ?_ ?_
   ·refine J.alloc rfl fun bg=>?_
    refine J.nil ?_;exact st0 (q,bg,()) _ _ _ ⟨rfl,rfl,rfl,rfl,rfl,rfl,trivial⟩ (by kernel_rfl) (by kernel_rfl) ⟨hq,trivial⟩ inferInstance
   refine J.wbr ?_ ?_
   ·refine J.alloc rfl fun bi=>?_
    refine J.nil ?_;exact st1 (q,bi,()) _ _ _ ⟨rfl,rfl,rfl,rfl,rfl,rfl,trivial⟩ (by kernel_rfl) (by kernel_rfl) ⟨hq,trivial⟩ inferInstance
   exact J.wbr0
  refine J.wst (A:=ShA×Nat×Unit) (fun p=>[(5, .pointer (some ⟨p.2.1,0,none⟩)),(25, .agg (shC q0).toArray),(27, .tuple #[.agg (shC p.1).toArray, .agg (ints .u8 S.hxX).toArray, .int .i64 0])]) [26] (fun p=>[.blk p.2.1 [.slice none 0 0, .slice none 0 0, .int .i64 0] 53,shW p.1, .blk b1 (shC q0) 53,shW q0]) (fun p=>ShK (S.madeS S.hxG 4) p.1∧True) 8 (bs 12 135) (fun p j hp=>?_) (fun st3=>?_)
  ·obtain⟨q,bg,_⟩:=p;obtain⟨hq,_⟩:=hp
   try dsimp only
   try dsimp only at hq
   refine J.wfin [(3, .q),(4, .q),(5, .q),(6, .q),(8, .e),(9, .e),(10, .e),(11, .q)] (by kernel_rfl) ?_;refine run ?_;refine J.alloc rfl fun bi=>?_
   refine run ?_;refine run ?_;refine run ?_;refine J.front (.blk bg (shC q) 53) ?_;refine J.front (.blk bi (ints .u8 S.hxX) 24) ?_;exact J.cut (q,bg,bi) ⟨rfl,rfl,rfl,trivial⟩ (by kernel_rfl) hq
  refine J.wst (A:=(Option Addr×Nat)×Nat×Nat×Unit) (fun p=>[(5, .pointer (some ⟨p.2.1,0,none⟩)),(6, .pointer (some ⟨p.2.2.1,0,none⟩)),(25, .agg (shC q0).toArray),(26, .agg (opC ⟨S.hxO,p.1.1,p.1.2⟩).toArray)]) [] (fun p=>[.blk p.2.1 [.slice none 0 0, .slice none 0 0, .int .i64 0] 53, .blk p.2.2.1 (ints .u8 (List.replicate 32 0)) 24, .wrow .u8 32 p.1.1 0 [], .blk b1 (shC q0) 53,shW q0]) (fun p=>True) 8 (bs 12 387) (fun p j hp=>?_) (fun st4=>?_)
  ·obtain⟨z,bg,bi,_⟩:=p;obtain _:=hp
   try dsimp only
   refine J.wfin [(2, .e),(3, .q),(4, .q),(5, .q),(6, .q),(9, .e),(10, .e),(11, .q)] (by kernel_rfl) ?_;refine run ?_;refine J.call rfl rfl (sP1 q0 z K0 hq0) fun q hq=>?_
   refine run ?_;refine run ?_;refine run ?_;refine J.front (.blk bg (shC q) 53) ?_;refine J.front (.blk bi (ints .u8 S.hxX) 24) ?_;exact J.cut (q,bg,bi) ⟨rfl,rfl,rfl,trivial⟩ (by kernel_rfl) hq
  refine J.wst (A:=(Option Addr×Nat)×Nat×Unit) (fun p=>[(5, .pointer (some ⟨p.2.1,0,none⟩)),(25, .agg (shC q0).toArray),(26, .agg (opC ⟨S.hxO,p.1.1,p.1.2⟩).toArray)]) [] (fun p=>[.blk p.2.1 [.slice none 0 0, .slice none 0 0, .int .i64 0] 53, .wrow .u8 32 p.1.1 0 [], .blk b1 (shC q0) 53,shW q0]) (fun p=>True) 9 (bs 12 131) (fun p j hp=>?_) (fun st5=>?_)
  ·obtain⟨z,bg,_⟩:=p;obtain _:=hp
   try dsimp only
   refine J.wnode [] [2,8] 8 (bs 12 131) (by kernel_rfl) ?_;refine run ?_;refine J.nil ?_;refine J.wbr ?_ ?_
   ·refine J.call rfl rfl (sP1 q0 z K0 hq0) fun q hq=>?_
    refine J.nil ?_;refine J.front (shW q) ?_;refine J.front (.blk bg [.slice none 0 0, .slice none 0 0, .int .i64 0] 53) ?_;exact st3 (q,bg,()) _ _ _ ⟨rfl,rfl,rfl,trivial⟩ (by kernel_rfl) (by kernel_rfl) ⟨hq,trivial⟩ inferInstance
   refine J.wbr ?_ ?_
   ·refine J.alloc rfl fun bi=>?_
    refine J.nil ?_;refine J.front (.wrow .u8 32 z.1 0 []) ?_;refine J.front (.blk bi (ints .u8 (List.replicate 32 0)) 24) ?_;refine J.front (.blk bg [.slice none 0 0, .slice none 0 0, .int .i64 0] 53) ?_;exact st4 (z,bg,bi,()) _ _ _ ⟨rfl,rfl,rfl,rfl,trivial⟩ (by kernel_rfl) (by kernel_rfl) trivial inferInstance
   exact J.wbr0
  refine J.wst (A:=ShA×Nat×Unit) (fun p=>[(6, .pointer (some ⟨p.2.1,0,none⟩)),(25, .agg (shC q0).toArray),(27, .tuple #[.agg (shC p.1).toArray, .agg (ints .u8 S.hxX).toArray, .int .i64 0])]) [26] (fun p=>[.blk p.2.1 (ints .u8 (List.replicate 32 0)) 24,shW p.1, .blk b1 (shC q0) 53,shW q0]) (fun p=>ShK (S.madeS S.hxG 4) p.1∧True) 8 (bs 12 263) (fun p j hp=>?_) (fun st6=>?_)
  ·obtain⟨q,bi,_⟩:=p;obtain⟨hq,_⟩:=hp
   try dsimp only
   try dsimp only at hq
   refine J.wfin [(3, .q),(4, .q),(5, .q),(6, .q),(7, .e),(9, .e),(10, .e),(11, .q)] (by kernel_rfl) ?_;refine run ?_;refine J.alloc rfl fun bg=>?_
   refine run ?_;refine run ?_;refine run ?_;refine J.front (.blk bg (shC q) 53) ?_;refine J.front (.blk bi (ints .u8 S.hxX) 24) ?_;exact J.cut (q,bg,bi) ⟨rfl,rfl,rfl,trivial⟩ (by kernel_rfl) hq
  refine J.wst (A:=(Option Addr×Nat)×Nat×Unit) (fun p=>[(6, .pointer (some ⟨p.2.1,0,none⟩)),(25, .agg (shC q0).toArray),(26, .agg (opC ⟨S.hxO,p.1.1,p.1.2⟩).toArray)]) [] (fun p=>[.blk p.2.1 (ints .u8 (List.replicate 32 0)) 24, .wrow .u8 32 p.1.1 0 [], .blk b1 (shC q0) 53,shW q0]) (fun p=>True) 9 (bs 12 259) (fun p j hp=>?_) (fun st7=>?_)
  ·obtain⟨z,bi,_⟩:=p;obtain _:=hp
   try dsimp only
   refine J.wnode [] [2,7] 8 (bs 12 259) (by kernel_rfl) ?_;refine run ?_;refine J.nil ?_;refine J.wbr ?_ ?_
   ·refine J.call rfl rfl (sP1 q0 z K0 hq0) fun q hq=>?_
    refine J.nil ?_;refine J.front (shW q) ?_;refine J.front (.blk bi (ints .u8 (List.replicate 32 0)) 24) ?_;exact st6 (q,bi,()) _ _ _ ⟨rfl,rfl,rfl,trivial⟩ (by kernel_rfl) (by kernel_rfl) ⟨hq,trivial⟩ inferInstance
   refine J.wbr ?_ ?_
   ·refine J.alloc rfl fun bg=>?_
    refine J.nil ?_;exact st4 (z,bg,bi,()) _ _ _ ⟨rfl,rfl,rfl,rfl,trivial⟩ (by kernel_rfl) (by kernel_rfl) trivial inferInstance
   exact J.wbr0
  refine J.wst (A:=(Option Addr×Nat)×Unit) (fun p=>[(25, .agg (shC q0).toArray),(26, .agg (opC ⟨S.hxO,p.1.1,p.1.2⟩).toArray)]) [] (fun p=>[.wrow .u8 32 p.1.1 0 [], .blk b1 (shC q0) 53,shW q0]) (fun p=>True) 10 (bs 12 3) (fun p j hp=>?_) (fun st8=>?_)
  ·obtain⟨z,_⟩:=p;obtain _:=hp
   try dsimp only
   refine J.wnode [] [2,7,8] 9 (bs 12 3) (by kernel_rfl) ?_;refine run ?_;refine J.nil ?_;refine J.wbr ?_ ?_
   ·refine J.call rfl rfl (sP1 q0 z K0 hq0) fun q hq=>?_
    refine J.nil ?_;exact st2 (q,()) _ _ _ ⟨rfl,rfl,trivial⟩ (by kernel_rfl) (by kernel_rfl) ⟨hq,trivial⟩ inferInstance
   refine J.wbr ?_ ?_
   ·refine J.alloc rfl fun bg=>?_
    refine J.nil ?_;exact st5 (z,bg,()) _ _ _ ⟨rfl,rfl,rfl,trivial⟩ (by kernel_rfl) (by kernel_rfl) trivial inferInstance
   refine J.wbr ?_ ?_
   ·refine J.alloc rfl fun bi=>?_
    refine J.nil ?_;exact st7 (z,bi,()) _ _ _ ⟨rfl,rfl,rfl,trivial⟩ (by kernel_rfl) (by kernel_rfl) trivial inferInstance
   exact J.wbr0
  refine J.wst (A:=Nat×Nat×Unit) (fun p=>[(5, .pointer (some ⟨p.1,0,none⟩)),(6, .pointer (some ⟨p.2.1,0,none⟩)),(25, .agg (shC q0).toArray)]) [] (fun p=>[.blk p.1 [.slice none 0 0, .slice none 0 0, .int .i64 0] 53, .blk p.2.1 (ints .u8 (List.replicate 32 0)) 24, .blk b1 (shC q0) 53,shW q0]) (fun p=>True) 9 (bs 12 385) (fun p j hp=>?_) (fun st9=>?_)
  ·obtain⟨bg,bi,_⟩:=p;obtain _:=hp
   try dsimp only
   refine J.wfin [(1, .e),(2, .e),(3, .q),(4, .q),(5, .q),(6, .q),(9, .e),(10, .e),(11, .q)] (by kernel_rfl) ?_;refine run ?_;refine J.call rfl rfl (fun w' M=>shA TK w' (K0.ext M.ext)) fun z hz=>?_
   refine run ?_;refine J.call rfl rfl (sP1 q0 z K0 hq0) fun q hq=>?_
   refine run ?_;refine run ?_;refine run ?_;refine J.front (.blk bg (shC q) 53) ?_;refine J.front (.blk bi (ints .u8 S.hxX) 24) ?_;exact J.cut (q,bg,bi) ⟨rfl,rfl,rfl,trivial⟩ (by kernel_rfl) hq
  refine J.wst (A:=Nat×Unit) (fun p=>[(5, .pointer (some ⟨p.1,0,none⟩)),(25, .agg (shC q0).toArray)]) [] (fun p=>[.blk p.1 [.slice none 0 0, .slice none 0 0, .int .i64 0] 53, .blk b1 (shC q0) 53,shW q0]) (fun p=>True) 10 (bs 12 129) (fun p j hp=>?_) (fun st10=>?_)
  ·obtain⟨bg,_⟩:=p;obtain _:=hp
   try dsimp only
   refine J.wnode [] [1,8] 9 (bs 12 129) (by kernel_rfl) ?_;refine run ?_;refine J.nil ?_;refine J.wbr ?_ ?_
   ·refine J.call rfl rfl (fun w' M=>shA TK w' (K0.ext M.ext)) fun z hz=>?_
    refine J.nil ?_;refine J.front (.wrow .u8 32 z.1 0 []) ?_;refine J.front (.blk bg [.slice none 0 0, .slice none 0 0, .int .i64 0] 53) ?_;exact st5 (z,bg,()) _ _ _ ⟨rfl,rfl,rfl,trivial⟩ (by kernel_rfl) (by kernel_rfl) trivial inferInstance
   refine J.wbr ?_ ?_
   ·refine J.alloc rfl fun bi=>?_
    refine J.nil ?_;refine J.front (.blk bi (ints .u8 (List.replicate 32 0)) 24) ?_;refine J.front (.blk bg [.slice none 0 0, .slice none 0 0, .int .i64 0] 53) ?_;exact st9 (bg,bi,()) _ _ _ ⟨rfl,rfl,rfl,trivial⟩ (by kernel_rfl) (by kernel_rfl) trivial inferInstance
   exact J.wbr0
  refine J.wst (A:=Nat×Unit) (fun p=>[(6, .pointer (some ⟨p.1,0,none⟩)),(25, .agg (shC q0).toArray)]) [] (fun p=>[.blk p.1 (ints .u8 (List.replicate 32 0)) 24, .blk b1 (shC q0) 53,shW q0]) (fun p=>True) 10 (bs 12 257) (fun p j hp=>?_) (fun st11=>?_)
  ·obtain⟨bi,_⟩:=p;obtain _:=hp
   try dsimp only
   refine J.wnode [] [1,7] 9 (bs 12 257) (by kernel_rfl) ?_;refine run ?_;refine J.nil ?_;refine J.wbr ?_ ?_
   ·refine J.call rfl rfl (fun w' M=>shA TK w' (K0.ext M.ext)) fun z hz=>?_
    refine J.nil ?_;refine J.front (.wrow .u8 32 z.1 0 []) ?_;refine J.front (.blk bi (ints .u8 (List.replicate 32 0)) 24) ?_;exact st7 (z,bi,()) _ _ _ ⟨rfl,rfl,rfl,trivial⟩ (by kernel_rfl) (by kernel_rfl) trivial inferInstance
   refine J.wbr ?_ ?_
   ·refine J.alloc rfl fun bg=>?_
    refine J.nil ?_;exact st9 (bg,bi,()) _ _ _ ⟨rfl,rfl,rfl,trivial⟩ (by kernel_rfl) (by kernel_rfl) trivial inferInstance
   exact J.wbr0
  refine J.wnode [(0, .q)] [1,7,8] 10 (bs 12 1) (by kernel_rfl) ?_;refine run ?_;refine J.nil ?_;refine J.wbr ?_ ?_
  ·refine J.call rfl rfl (fun w' M=>shA TK w' (K0.ext M.ext)) fun z hz=>?_
   refine J.nil ?_;exact st8 (z,()) _ _ _ ⟨rfl,rfl,trivial⟩ (by kernel_rfl) (by kernel_rfl) trivial inferInstance
  refine J.wbr ?_ ?_
  ·refine J.alloc rfl fun bg=>?_
   refine J.nil ?_;exact st10 (bg,()) _ _ _ ⟨rfl,rfl,trivial⟩ (by kernel_rfl) (by kernel_rfl) trivial inferInstance
  refine J.wbr ?_ ?_
  ·refine J.alloc rfl fun bi=>?_
   refine J.nil ?_;exact st11 (bi,()) _ _ _ ⟨rfl,rfl,trivial⟩ (by kernel_rfl) (by kernel_rfl) trivial inferInstance
  exact J.wbr0
 obtain⟨q1,b4,b5⟩:=u;dsimp only at hu⊢;refine run ?_;refine J.joinX (A:=ShA×Nat×Nat) (fun u=>[(8, .pointer (some ⟨u.2.1,0,none⟩)),(9, .pointer (some ⟨u.2.2,0,none⟩)),(10, .int .i64 0)]) [31,32,33,34,35,36,37,38,39] (fun u=>[.blk u.2.2 (ints .u8 S.hxY) 24, .blk u.2.1 (shC u.1) 53,shW u.1]) (fun u=>ShK (S.madeS S.hxH 4) u.1) ?_ (fun u j3 hu2=>?_)
 ·refine J.regionW [.blk b5 (ints .u8 S.hxX) 24, .blk b4 (shC q1) 53] mixed ?_;refine J.wst (A:=ShA×Nat×Unit) (fun p=>[(8, .pointer (some ⟨p.2.1,0,none⟩)),(32, .agg (shC q1).toArray),(33, .agg (ints .u8 S.hxX).toArray),(36, .tuple #[.agg (shC p.1).toArray, .agg (ints .u8 S.hxY).toArray, .int .i64 0]),(37, .agg (shC p.1).toArray),(38, .agg (ints .u8 S.hxY).toArray),(39, .int .i64 0)]) [31,34,35] (fun p=>[.blk p.2.1 [.slice none 0 0, .slice none 0 0, .int .i64 0] 53,shW p.1, .blk b5 (ints .u8 S.hxX) 24, .blk b4 (shC q1) 53,shW q1]) (fun p=>ShK (S.madeS S.hxH 4) p.1∧True) 4 (bs 14 1023) (fun p j hp=>?_) (fun st0=>?_)
  ·obtain⟨q,bg,_⟩:=p;obtain⟨hq,_⟩:=hp
   try dsimp only
   try dsimp only at hq
   refine J.wfin [(10, .e),(11, .e),(12, .e),(13, .q)] (by kernel_rfl) ?_;refine run ?_;refine J.alloc rfl fun bi=>?_
   refine run ?_;refine run ?_;refine run ?_;refine J.front (.blk bg (shC q) 53) ?_;refine J.front (.blk bi (ints .u8 S.hxY) 24) ?_;exact J.cut (q,bg,bi) ⟨rfl,rfl,rfl,trivial⟩ (by kernel_rfl) hq
  refine J.wst (A:=ShA×Nat×Unit) (fun p=>[(9, .pointer (some ⟨p.2.1,0,none⟩)),(32, .agg (shC q1).toArray),(33, .agg (ints .u8 S.hxX).toArray),(36, .tuple #[.agg (shC p.1).toArray, .agg (ints .u8 S.hxY).toArray, .int .i64 0]),(37, .agg (shC p.1).toArray),(38, .agg (ints .u8 S.hxY).toArray),(39, .int .i64 0)]) [31,34,35] (fun p=>[.blk p.2.1 (ints .u8 (List.replicate 32 0)) 24,shW p.1, .blk b5 (ints .u8 S.hxX) 24, .blk b4 (shC q1) 53,shW q1]) (fun p=>ShK (S.madeS S.hxH 4) p.1∧True) 4 (bs 14 1535) (fun p j hp=>?_) (fun st1=>?_)
  ·obtain⟨q,bi,_⟩:=p;obtain⟨hq,_⟩:=hp
   try dsimp only
   try dsimp only at hq
   refine J.wfin [(9, .e),(11, .e),(12, .e),(13, .q)] (by kernel_rfl) ?_;refine run ?_;refine J.alloc rfl fun bg=>?_
   refine run ?_;refine run ?_;refine run ?_;refine J.front (.blk bg (shC q) 53) ?_;refine J.front (.blk bi (ints .u8 S.hxY) 24) ?_;exact J.cut (q,bg,bi) ⟨rfl,rfl,rfl,trivial⟩ (by kernel_rfl) hq
  refine J.wst (A:=ShA×Unit) (fun p=>[(32, .agg (shC q1).toArray),(33, .agg (ints .u8 S.hxX).toArray),(36, .tuple #[.agg (shC p.1).toArray, .agg (ints .u8 S.hxY).toArray, .int .i64 0])]) [34,35] (fun p=>[shW p.1, .blk b5 (ints .u8 S.hxX) 24, .blk b4 (shC q1) 53,shW q1]) (fun p=>ShK (S.madeS S.hxH 4) p.1∧True) 9 (bs 14 31) (fun p j hp=>?_) (fun st2=>?_)
  ·obtain⟨q,_⟩:=p;obtain⟨hq,_⟩:=hp
   try dsimp only
   try dsimp only at hq
   refine J.wnode [(5, .q),(6, .q),(7, .q),(8, .q)] [9,10] 4 (bs 14 511) (by kernel_rfl) ?_;refine run ?_;refine J.nil ?_;refine J.wbr ?_ ?_
   ·refine J.alloc rfl fun bg=>?_
    refine J.nil ?_;exact st0 (q,bg,()) _ _ _ ⟨rfl,rfl,rfl,rfl,rfl,rfl,rfl,trivial⟩ (by kernel_rfl) (by kernel_rfl) ⟨hq,trivial⟩ inferInstance
   refine J.wbr ?_ ?_
   ·refine J.alloc rfl fun bi=>?_
    refine J.nil ?_;exact st1 (q,bi,()) _ _ _ ⟨rfl,rfl,rfl,rfl,rfl,rfl,rfl,trivial⟩ (by kernel_rfl) (by kernel_rfl) ⟨hq,trivial⟩ inferInstance
   exact J.wbr0
  refine J.wst (A:=ShA×Nat×Unit) (fun p=>[(8, .pointer (some ⟨p.2.1,0,none⟩)),(32, .agg (shC q1).toArray),(33, .agg (ints .u8 S.hxX).toArray),(36, .tuple #[.agg (shC p.1).toArray, .agg (ints .u8 S.hxY).toArray, .int .i64 0])]) [34,35] (fun p=>[.blk p.2.1 [.slice none 0 0, .slice none 0 0, .int .i64 0] 53,shW p.1, .blk b5 (ints .u8 S.hxX) 24, .blk b4 (shC q1) 53,shW q1]) (fun p=>ShK (S.madeS S.hxH 4) p.1∧True) 8 (bs 14 543) (fun p j hp=>?_) (fun st3=>?_)
  ·obtain⟨q,bg,_⟩:=p;obtain⟨hq,_⟩:=hp
   try dsimp only
   try dsimp only at hq
   refine J.wfin [(5, .q),(6, .q),(7, .q),(8, .q),(10, .e),(11, .e),(12, .e),(13, .q)] (by kernel_rfl) ?_;refine run ?_;refine J.alloc rfl fun bi=>?_
   refine run ?_;refine run ?_;refine run ?_;refine J.front (.blk bg (shC q) 53) ?_;refine J.front (.blk bi (ints .u8 S.hxY) 24) ?_;exact J.cut (q,bg,bi) ⟨rfl,rfl,rfl,trivial⟩ (by kernel_rfl) hq
  refine J.wst (A:=(Option Addr×Nat)×Nat×Nat×Unit) (fun p=>[(8, .pointer (some ⟨p.2.1,0,none⟩)),(9, .pointer (some ⟨p.2.2.1,0,none⟩)),(32, .agg (shC q1).toArray),(33, .agg (ints .u8 S.hxX).toArray),(35, .agg (opC ⟨S.hxU,p.1.1,p.1.2⟩).toArray)]) [34] (fun p=>[.blk p.2.1 [.slice none 0 0, .slice none 0 0, .int .i64 0] 53, .blk p.2.2.1 (ints .u8 (List.replicate 32 0)) 24, .wrow .u8 32 p.1.1 1 S.hxX, .blk b5 (ints .u8 S.hxX) 24, .blk b4 (shC q1) 53,shW q1]) (fun p=>1≤p.1.2∧True) 8 (bs 14 1551) (fun p j hp=>?_) (fun st4=>?_)
  ·obtain⟨z,bg,bi,_⟩:=p;obtain⟨hz,_⟩:=hp
   try dsimp only
   try dsimp only at hz
   refine J.wfin [(4, .e),(5, .q),(6, .q),(7, .q),(8, .q),(11, .e),(12, .e),(13, .q)] (by kernel_rfl) ?_;refine run ?_;refine J.call rfl rfl (sP2 q1 z K0 hu hz) fun q hq=>?_
   refine run ?_;refine run ?_;refine run ?_;refine J.front (.blk bg (shC q) 53) ?_;refine J.front (.blk bi (ints .u8 S.hxY) 24) ?_;exact J.cut (q,bg,bi) ⟨rfl,rfl,rfl,trivial⟩ (by kernel_rfl) hq
  refine J.wst (A:=(Option Addr×Nat)×Nat×Unit) (fun p=>[(8, .pointer (some ⟨p.2.1,0,none⟩)),(32, .agg (shC q1).toArray),(33, .agg (ints .u8 S.hxX).toArray),(35, .agg (opC ⟨S.hxU,p.1.1,p.1.2⟩).toArray)]) [34] (fun p=>[.blk p.2.1 [.slice none 0 0, .slice none 0 0, .int .i64 0] 53, .wrow .u8 32 p.1.1 1 S.hxX, .blk b5 (ints .u8 S.hxX) 24, .blk b4 (shC q1) 53,shW q1]) (fun p=>1≤p.1.2∧True) 9 (bs 14 527) (fun p j hp=>?_) (fun st5=>?_)
  ·obtain⟨z,bg,_⟩:=p;obtain⟨hz,_⟩:=hp
   try dsimp only
   try dsimp only at hz
   refine J.wnode [] [4,10] 8 (bs 14 527) (by kernel_rfl) ?_;refine run ?_;refine J.nil ?_;refine J.wbr ?_ ?_
   ·refine J.call rfl rfl (sP2 q1 z K0 hu hz) fun q hq=>?_
    refine J.nil ?_;refine J.front (shW q) ?_;refine J.front (.blk bg [.slice none 0 0, .slice none 0 0, .int .i64 0] 53) ?_;exact st3 (q,bg,()) _ _ _ ⟨rfl,rfl,rfl,rfl,trivial⟩ (by kernel_rfl) (by kernel_rfl) ⟨hq,trivial⟩ inferInstance
   refine J.wbr ?_ ?_
   ·refine J.alloc rfl fun bi=>?_
    refine J.nil ?_;refine J.front (.wrow .u8 32 z.1 1 S.hxX) ?_;refine J.front (.blk bi (ints .u8 (List.replicate 32 0)) 24) ?_;refine J.front (.blk bg [.slice none 0 0, .slice none 0 0, .int .i64 0] 53) ?_;exact st4 (z,bg,bi,()) _ _ _ ⟨rfl,rfl,rfl,rfl,rfl,trivial⟩ (by kernel_rfl) (by kernel_rfl) ⟨hz,trivial⟩ inferInstance
   exact J.wbr0
  refine J.wst (A:=ShA×Nat×Unit) (fun p=>[(9, .pointer (some ⟨p.2.1,0,none⟩)),(32, .agg (shC q1).toArray),(33, .agg (ints .u8 S.hxX).toArray),(36, .tuple #[.agg (shC p.1).toArray, .agg (ints .u8 S.hxY).toArray, .int .i64 0])]) [34,35] (fun p=>[.blk p.2.1 (ints .u8 (List.replicate 32 0)) 24,shW p.1, .blk b5 (ints .u8 S.hxX) 24, .blk b4 (shC q1) 53,shW q1]) (fun p=>ShK (S.madeS S.hxH 4) p.1∧True) 8 (bs 14 1055) (fun p j hp=>?_) (fun st6=>?_)
  ·obtain⟨q,bi,_⟩:=p;obtain⟨hq,_⟩:=hp
   try dsimp only
   try dsimp only at hq
   refine J.wfin [(5, .q),(6, .q),(7, .q),(8, .q),(9, .e),(11, .e),(12, .e),(13, .q)] (by kernel_rfl) ?_;refine run ?_;refine J.alloc rfl fun bg=>?_
   refine run ?_;refine run ?_;refine run ?_;refine J.front (.blk bg (shC q) 53) ?_;refine J.front (.blk bi (ints .u8 S.hxY) 24) ?_;exact J.cut (q,bg,bi) ⟨rfl,rfl,rfl,trivial⟩ (by kernel_rfl) hq
  refine J.wst (A:=(Option Addr×Nat)×Nat×Unit) (fun p=>[(9, .pointer (some ⟨p.2.1,0,none⟩)),(32, .agg (shC q1).toArray),(33, .agg (ints .u8 S.hxX).toArray),(35, .agg (opC ⟨S.hxU,p.1.1,p.1.2⟩).toArray)]) [34] (fun p=>[.blk p.2.1 (ints .u8 (List.replicate 32 0)) 24, .wrow .u8 32 p.1.1 1 S.hxX, .blk b5 (ints .u8 S.hxX) 24, .blk b4 (shC q1) 53,shW q1]) (fun p=>1≤p.1.2∧True) 9 (bs 14 1039) (fun p j hp=>?_) (fun st7=>?_)
  ·obtain⟨z,bi,_⟩:=p;obtain⟨hz,_⟩:=hp
   try dsimp only
   try dsimp only at hz
   refine J.wnode [] [4,9] 8 (bs 14 1039) (by kernel_rfl) ?_;refine run ?_;refine J.nil ?_;refine J.wbr ?_ ?_
   ·refine J.call rfl rfl (sP2 q1 z K0 hu hz) fun q hq=>?_
    refine J.nil ?_;refine J.front (shW q) ?_;refine J.front (.blk bi (ints .u8 (List.replicate 32 0)) 24) ?_;exact st6 (q,bi,()) _ _ _ ⟨rfl,rfl,rfl,rfl,trivial⟩ (by kernel_rfl) (by kernel_rfl) ⟨hq,trivial⟩ inferInstance
   refine J.wbr ?_ ?_
   ·refine J.alloc rfl fun bg=>?_
    refine J.nil ?_;exact st4 (z,bg,bi,()) _ _ _ ⟨rfl,rfl,rfl,rfl,rfl,trivial⟩ (by kernel_rfl) (by kernel_rfl) ⟨hz,trivial⟩ inferInstance
   exact J.wbr0
  refine J.wst (A:=(Option Addr×Nat)×Unit) (fun p=>[(32, .agg (shC q1).toArray),(33, .agg (ints .u8 S.hxX).toArray),(35, .agg (opC ⟨S.hxU,p.1.1,p.1.2⟩).toArray)]) [34] (fun p=>[.wrow .u8 32 p.1.1 1 S.hxX, .blk b5 (ints .u8 S.hxX) 24, .blk b4 (shC q1) 53,shW q1]) (fun p=>1≤p.1.2∧True) 10 (bs 14 15) (fun p j hp=>?_) (fun st8=>?_)
  ·obtain⟨z,_⟩:=p;obtain⟨hz,_⟩:=hp
   try dsimp only
   try dsimp only at hz
   refine J.wnode [] [4,9,10] 9 (bs 14 15) (by kernel_rfl) ?_;refine run ?_;refine J.nil ?_;refine J.wbr ?_ ?_
   ·refine J.call rfl rfl (sP2 q1 z K0 hu hz) fun q hq=>?_
    refine J.nil ?_;exact st2 (q,()) _ _ _ ⟨rfl,rfl,rfl,trivial⟩ (by kernel_rfl) (by kernel_rfl) ⟨hq,trivial⟩ inferInstance
   refine J.wbr ?_ ?_
   ·refine J.alloc rfl fun bg=>?_
    refine J.nil ?_;exact st5 (z,bg,()) _ _ _ ⟨rfl,rfl,rfl,rfl,trivial⟩ (by kernel_rfl) (by kernel_rfl) ⟨hz,trivial⟩ inferInstance
   refine J.wbr ?_ ?_
   ·refine J.alloc rfl fun bi=>?_
    refine J.nil ?_;exact st7 (z,bi,()) _ _ _ ⟨rfl,rfl,rfl,rfl,trivial⟩ (by kernel_rfl) (by kernel_rfl) ⟨hz,trivial⟩ inferInstance
   exact J.wbr0
  refine J.wst (A:=Nat×Nat×Nat×Unit) (fun p=>[(8, .pointer (some ⟨p.2.1,0,none⟩)),(9, .pointer (some ⟨p.2.2.1,0,none⟩)),(32, .agg (shC q1).toArray),(33, .agg (ints .u8 S.hxX).toArray),(34, .slice (some ⟨p.1,0,none⟩) 1 1)]) [] (fun p=>[.blk p.2.1 [.slice none 0 0, .slice none 0 0, .int .i64 0] 53, .blk p.2.2.1 (ints .u8 (List.replicate 32 0)) 24, .wown 24 .u8 32 (some ⟨p.1,0,none⟩) 1 1 S.hxX, .blk b5 (ints .u8 S.hxX) 24, .blk b4 (shC q1) 53,shW q1]) (fun p=>True) 9 (bs 14 1543) (fun p j hp=>?_) (fun st9=>?_)
  ·obtain⟨bx,bg,bi,_⟩:=p;obtain _:=hp
   try dsimp only
   refine J.wfin [(3, .e),(4, .e),(5, .q),(6, .q),(7, .q),(8, .q),(11, .e),(12, .e),(13, .q)] (by kernel_rfl) ?_;refine run ?_;refine J.call rfl rfl (sB bx K0) fun z hz=>?_
   refine run ?_;refine J.call rfl rfl (sP2 q1 z K0 hu hz) fun q hq=>?_
   refine run ?_;refine run ?_;refine run ?_;refine J.front (.blk bg (shC q) 53) ?_;refine J.front (.blk bi (ints .u8 S.hxY) 24) ?_;exact J.cut (q,bg,bi) ⟨rfl,rfl,rfl,trivial⟩ (by kernel_rfl) hq
  refine J.wst (A:=Nat×Nat×Unit) (fun p=>[(8, .pointer (some ⟨p.2.1,0,none⟩)),(32, .agg (shC q1).toArray),(33, .agg (ints .u8 S.hxX).toArray),(34, .slice (some ⟨p.1,0,none⟩) 1 1)]) [] (fun p=>[.blk p.2.1 [.slice none 0 0, .slice none 0 0, .int .i64 0] 53, .wown 24 .u8 32 (some ⟨p.1,0,none⟩) 1 1 S.hxX, .blk b5 (ints .u8 S.hxX) 24, .blk b4 (shC q1) 53,shW q1]) (fun p=>True) 10 (bs 14 519) (fun p j hp=>?_) (fun st10=>?_)
  ·obtain⟨bx,bg,_⟩:=p;obtain _:=hp
   try dsimp only
   refine J.wnode [] [3,10] 9 (bs 14 519) (by kernel_rfl) ?_;refine run ?_;refine J.nil ?_;refine J.wbr ?_ ?_
   ·refine J.call rfl rfl (sB bx K0) fun z hz=>?_
    refine J.nil ?_;refine J.front (.wrow .u8 32 z.1 1 S.hxX) ?_;refine J.front (.blk bg [.slice none 0 0, .slice none 0 0, .int .i64 0] 53) ?_;exact st5 (z,bg,()) _ _ _ ⟨rfl,rfl,rfl,rfl,trivial⟩ (by kernel_rfl) (by kernel_rfl) ⟨hz,trivial⟩ inferInstance
   refine J.wbr ?_ ?_
   ·refine J.alloc rfl fun bi=>?_
    refine J.nil ?_;refine J.front (.wown 24 .u8 32 (some ⟨bx,0,none⟩) 1 1 S.hxX) ?_;refine J.front (.blk bi (ints .u8 (List.replicate 32 0)) 24) ?_;refine J.front (.blk bg [.slice none 0 0, .slice none 0 0, .int .i64 0] 53) ?_;exact st9 (bx,bg,bi,()) _ _ _ ⟨rfl,rfl,rfl,rfl,rfl,trivial⟩ (by kernel_rfl) (by kernel_rfl) trivial inferInstance
   exact J.wbr0
  refine J.wst (A:=Nat×Nat×Unit) (fun p=>[(9, .pointer (some ⟨p.2.1,0,none⟩)),(32, .agg (shC q1).toArray),(33, .agg (ints .u8 S.hxX).toArray),(34, .slice (some ⟨p.1,0,none⟩) 1 1)]) [] (fun p=>[.blk p.2.1 (ints .u8 (List.replicate 32 0)) 24, .wown 24 .u8 32 (some ⟨p.1,0,none⟩) 1 1 S.hxX, .blk b5 (ints .u8 S.hxX) 24, .blk b4 (shC q1) 53,shW q1]) (fun p=>True) 10 (bs 14 1031) (fun p j hp=>?_) (fun st11=>?_)
  ·obtain⟨bx,bi,_⟩:=p;obtain _:=hp
   try dsimp only
   refine J.wnode [] [3,9] 9 (bs 14 1031) (by kernel_rfl) ?_;refine run ?_;refine J.nil ?_;refine J.wbr ?_ ?_
   ·refine J.call rfl rfl (sB bx K0) fun z hz=>?_
    refine J.nil ?_;refine J.front (.wrow .u8 32 z.1 1 S.hxX) ?_;refine J.front (.blk bi (ints .u8 (List.replicate 32 0)) 24) ?_;exact st7 (z,bi,()) _ _ _ ⟨rfl,rfl,rfl,rfl,trivial⟩ (by kernel_rfl) (by kernel_rfl) ⟨hz,trivial⟩ inferInstance
   refine J.wbr ?_ ?_
   ·refine J.alloc rfl fun bg=>?_
    refine J.nil ?_;exact st9 (bx,bg,bi,()) _ _ _ ⟨rfl,rfl,rfl,rfl,rfl,trivial⟩ (by kernel_rfl) (by kernel_rfl) trivial inferInstance
   exact J.wbr0
  refine J.wst (A:=Nat×Unit) (fun p=>[(32, .agg (shC q1).toArray),(33, .agg (ints .u8 S.hxX).toArray),(34, .slice (some ⟨p.1,0,none⟩) 1 1)]) [] (fun p=>[.wown 24 .u8 32 (some ⟨p.1,0,none⟩) 1 1 S.hxX, .blk b5 (ints .u8 S.hxX) 24, .blk b4 (shC q1) 53,shW q1]) (fun p=>True) 11 (bs 14 7) (fun p j hp=>?_) (fun st12=>?_)
  ·obtain⟨bx,_⟩:=p;obtain _:=hp
   try dsimp only
   refine J.wnode [] [3,9,10] 10 (bs 14 7) (by kernel_rfl) ?_;refine run ?_;refine J.nil ?_;refine J.wbr ?_ ?_
   ·refine J.call rfl rfl (sB bx K0) fun z hz=>?_
    refine J.nil ?_;exact st8 (z,()) _ _ _ ⟨rfl,rfl,rfl,trivial⟩ (by kernel_rfl) (by kernel_rfl) ⟨hz,trivial⟩ inferInstance
   refine J.wbr ?_ ?_
   ·refine J.alloc rfl fun bg=>?_
    refine J.nil ?_;exact st10 (bx,bg,()) _ _ _ ⟨rfl,rfl,rfl,rfl,trivial⟩ (by kernel_rfl) (by kernel_rfl) trivial inferInstance
   refine J.wbr ?_ ?_
   ·refine J.alloc rfl fun bi=>?_
    refine J.nil ?_;exact st11 (bx,bi,()) _ _ _ ⟨rfl,rfl,rfl,rfl,trivial⟩ (by kernel_rfl) (by kernel_rfl) trivial inferInstance
   exact J.wbr0
  refine J.wst (A:=Nat×Nat×Unit) (fun p=>[(8, .pointer (some ⟨p.1,0,none⟩)),(9, .pointer (some ⟨p.2.1,0,none⟩)),(32, .agg (shC q1).toArray),(33, .agg (ints .u8 S.hxX).toArray)]) [] (fun p=>[.blk p.1 [.slice none 0 0, .slice none 0 0, .int .i64 0] 53, .blk p.2.1 (ints .u8 (List.replicate 32 0)) 24, .blk b5 (ints .u8 S.hxX) 24, .blk b4 (shC q1) 53,shW q1]) (fun p=>True) 10 (bs 14 1539) (fun p j hp=>?_) (fun st13=>?_)
  ·obtain⟨bg,bi,_⟩:=p;obtain _:=hp
   try dsimp only
   refine J.wfin [(2, .e),(3, .e),(4, .e),(5, .q),(6, .q),(7, .q),(8, .q),(11, .e),(12, .e),(13, .q)] (by kernel_rfl) ?_;refine run ?_;refine J.b1W rfl rfl hX fun bx=>?_
   refine run ?_;refine J.call rfl rfl (sB bx K0) fun z hz=>?_
   refine run ?_;refine J.call rfl rfl (sP2 q1 z K0 hu hz) fun q hq=>?_
   refine run ?_;refine run ?_;refine run ?_;refine J.front (.blk bg (shC q) 53) ?_;refine J.front (.blk bi (ints .u8 S.hxY) 24) ?_;exact J.cut (q,bg,bi) ⟨rfl,rfl,rfl,trivial⟩ (by kernel_rfl) hq
  refine J.wst (A:=Nat×Unit) (fun p=>[(8, .pointer (some ⟨p.1,0,none⟩)),(32, .agg (shC q1).toArray),(33, .agg (ints .u8 S.hxX).toArray)]) [] (fun p=>[.blk p.1 [.slice none 0 0, .slice none 0 0, .int .i64 0] 53, .blk b5 (ints .u8 S.hxX) 24, .blk b4 (shC q1) 53,shW q1]) (fun p=>True) 11 (bs 14 515) (fun p j hp=>?_) (fun st14=>?_)
  ·obtain⟨bg,_⟩:=p;obtain _:=hp
   try dsimp only
   refine J.wnode [] [2,10] 10 (bs 14 515) (by kernel_rfl) ?_;refine run ?_;refine J.nil ?_;refine J.wbr ?_ ?_
   ·refine J.b1W rfl rfl hX fun bx=>?_
    refine J.nil ?_;refine J.front (.wown 24 .u8 32 (some ⟨bx,0,none⟩) 1 1 S.hxX) ?_;refine J.front (.blk bg [.slice none 0 0, .slice none 0 0, .int .i64 0] 53) ?_;exact st10 (bx,bg,()) _ _ _ ⟨rfl,rfl,rfl,rfl,trivial⟩ (by kernel_rfl) (by kernel_rfl) trivial inferInstance
   refine J.wbr ?_ ?_
   ·refine J.alloc rfl fun bi=>?_
    refine J.nil ?_;refine J.front (.blk bi (ints .u8 (List.replicate 32 0)) 24) ?_;refine J.front (.blk bg [.slice none 0 0, .slice none 0 0, .int .i64 0] 53) ?_;exact st13 (bg,bi,()) _ _ _ ⟨rfl,rfl,rfl,rfl,trivial⟩ (by kernel_rfl) (by kernel_rfl) trivial inferInstance
   exact J.wbr0
  refine J.wst (A:=Nat×Unit) (fun p=>[(9, .pointer (some ⟨p.1,0,none⟩)),(32, .agg (shC q1).toArray),(33, .agg (ints .u8 S.hxX).toArray)]) [] (fun p=>[.blk p.1 (ints .u8 (List.replicate 32 0)) 24, .blk b5 (ints .u8 S.hxX) 24, .blk b4 (shC q1) 53,shW q1]) (fun p=>True) 11 (bs 14 1027) (fun p j hp=>?_) (fun st15=>?_)
  ·obtain⟨bi,_⟩:=p;obtain _:=hp
   try dsimp only
   refine J.wnode [] [2,9] 10 (bs 14 1027) (by kernel_rfl) ?_;refine run ?_;refine J.nil ?_;refine J.wbr ?_ ?_
   ·refine J.b1W rfl rfl hX fun bx=>?_
    refine J.nil ?_;refine J.front (.wown 24 .u8 32 (some ⟨bx,0,none⟩) 1 1 S.hxX) ?_;refine J.front (.blk bi (ints .u8 (List.replicate 32 0)) 24) ?_;exact st11 (bx,bi,()) _ _ _ ⟨rfl,rfl,rfl,rfl,trivial⟩ (by kernel_rfl) (by kernel_rfl) trivial inferInstance
   refine J.wbr ?_ ?_
   ·refine J.alloc rfl fun bg=>?_
    refine J.nil ?_;exact st13 (bg,bi,()) _ _ _ ⟨rfl,rfl,rfl,rfl,trivial⟩ (by kernel_rfl) (by kernel_rfl) trivial inferInstance
   exact J.wbr0
  refine J.wnode [(0, .q),(1, .q)] [2,9,10] 11 (bs 14 3) (by kernel_rfl) ?_;refine run ?_;refine J.nil ?_;refine J.wbr ?_ ?_
  ·refine J.b1W rfl rfl hX fun bx=>?_
   refine J.nil ?_;exact st12 (bx,()) _ _ _ ⟨rfl,rfl,rfl,trivial⟩ (by kernel_rfl) (by kernel_rfl) trivial inferInstance
  refine J.wbr ?_ ?_
  ·refine J.alloc rfl fun bg=>?_
   refine J.nil ?_;exact st14 (bg,()) _ _ _ ⟨rfl,rfl,rfl,trivial⟩ (by kernel_rfl) (by kernel_rfl) trivial inferInstance
  refine J.wbr ?_ ?_
  ·refine J.alloc rfl fun bi=>?_
   refine J.nil ?_;exact st15 (bi,()) _ _ _ ⟨rfl,rfl,rfl,trivial⟩ (by kernel_rfl) (by kernel_rfl) trivial inferInstance
  exact J.wbr0
 obtain⟨q2,b6,b7⟩:=u;dsimp only at hu2⊢;have z2:=hu2.sz s2 (by decide);refine run ?_;refine J.call rfl rfl (fun w' M=>shHeads q2 TK w' (K0.ext M.ext) (ShR.ownB hu2.k z2.1 z2.2 w' M) (hu2.L S.hx_f2.2.2.1)) fun d1 hd1=>?_
 rw[hu2.V,S.hx_tell.1,S.hx_tell.2.1,S.hx_tell.2.2];obtain⟨ha,hn,hc⟩:=d1;dsimp only at hd1⊢;refine run ?_;refine J.b1W rfl rfl hY fun bx=>?_
 refine run ?_;refine J.callp rfl rfl (fun w' M=>(RW.row' (a:=ha) w' M).elim fun _ k1=>(RW.own' (a:=some ⟨bx,0,none⟩) w' M).elim fun _ k2=>sameIDs _ _ _ _ _ _ _ _ w' k1 k2 (by omega) (by omega)) ?_;refine run ?_;exact J.fin rfl
instance:Ents prog 67:=⟨.mk func67 (by kernel_rfl) rfl⟩
instance:Ents prog 69:=⟨.mk func69 (by kernel_rfl) rfl⟩
end W
namespace S
open G
theorem putP_nil0(x:List Int)(o:OpV):putP PG.nil x o=⟨1,x,[o]⟩:=by
 unfold putP insW insO PG.nil;simp
theorem rising_one{x:List Int}:Rising 1 x:=fun i hi=>absurd hi (Nat.not_lt_zero _)
theorem hd_one{x:List Int}{o:OpV}(hf:(⟨1,x,[o]⟩:PG).fine)(hx:x.length=32)(ho:o.n=0):hdN ⟨1,x,[o]⟩=1∧hdI ⟨1,x,[o]⟩=x:=by
 obtain⟨h1,h2,h3⟩:=hd_all hf;refine idsG_ext h1 (by rw[hx]) h2 rising_one fun y=>(h3 y).trans ⟨fun h=>h.1,fun h=>⟨h,fun z u hu=>?_⟩⟩;obtain⟨i,hi,_,e⟩:=hu;obtain rfl:i=0:=by
  have:i<1:=hi;omega
 have e:o=u:=e;subst e;rw[ho];exact fun⟨k,hk,_⟩=>absurd hk (Nat.not_lt_zero _)
end S
namespace W
open Go.RowKit G
set_option maxRecDepth 20000
set_option maxHeartbeats 8000000
attribute [local irreducible] RS RX RY Code.wp bodyPost J Ent.blk Ent.iown Ent.wrow Ent.wown Ent.gown Ent.all Ent.emp
theorem idsBack{S:Nat→Prop}{w:World}{T:TypeId}{a:Option Addr}{n c:Nat}(l:List IdV)(xs:List Int)(e:flatI l=xs)(hb:Bd .u8 xs)(h:(Ent.gown idC 32 T a n c l).ok S w):(Ent.wown T .u8 32 a n c xs).ok S w:=e▸gown_wown (e.symm▸hb) h
end W
namespace S
open G
theorem nm_bad:verE OpV.zero=8:=by decide+kernel
theorem sn_nw:nwE 0=2∧nwE 5=2∧nwE 1=0∧nwS 1=madeS PG.nil 1:=⟨by decide,by decide,by decide,if_pos (by decide)⟩
def snP:PG:=⟨1,hxX,[hxO]⟩
def snV:ShV:=⟨[snP],1,hxX,1⟩
theorem sn_G:hxG=snP:=by
 have h:=(addP_yes hx_add1).1;rw[show idOf hxO=hxX from hx_x]at h;exact h.trans (putP_nil0 _ _)
theorem sn_fine:snP.fine:=sn_G▸hx_f1.2.2.1
theorem sn_hd:hdN snP=1∧hdI snP=hxX:=hd_one sn_fine rfl rfl
theorem sn_good:goodPs [snP]:=fun i hi=>by
 obtain rfl:i=0:=by
  have:i<1:=hi;omega
 exact⟨sn_fine.good,sn_fine.rising,fun j _=>Int.emod_one _⟩
theorem sn_mrg : Mrg [snP] snP := ⟨sn_fine.good, sn_fine.rising, fun x o => ⟨fun h => ⟨snP, List.mem_singleton.2 rfl, h⟩, fun ⟨p, hp, h⟩ => by
 obtain rfl := List.mem_singleton.1 hp
 exact h⟩⟩
theorem sn_whole:whole [snP]=snP:=(whole_mrg sn_good).eq sn_mrg
theorem sn_1:madeS hxG 1=snV:=by
 rw[sn_G];have e:prtS snP 1 0=snP:=prt_back (ps:=[snP]) sn_good sn_mrg (i:=0) (by decide);show(⟨[prtS snP 1 0],hdN snP,hdI snP,((1:Nat):Int)⟩:ShV)=snV;rw[e,sn_hd.1,sn_hd.2];rfl
theorem sn_okR:okR snV:=by
 have:=(ok_made (n:=1) hx_f1.2.2.1 (by decide)).1;rwa[sn_1]at this
theorem sn_wh:whole snV.ps=hxG:=sn_whole.trans sn_G.symm
theorem sn_put:puE (madeS .nil 1) hxO=0∧puI (madeS .nil 1) hxO=hxX∧puS (madeS .nil 1) hxO=snV:=by
 obtain⟨a,b,c⟩:=pu_made (o:=hxO) nil_fine (n:=1) (by decide);exact⟨a.trans hx_add1,b.trans hx_id1,(c hx_add1).trans sn_1⟩
theorem sn_chk:chkP hxG=0:=(chkP_fine hx_f1.2.2.1.good.1).2 hx_f1.2.2.1
theorem sn_twice:puE snV hxO=14:=(pu_no (v:=snV) sn_okR (by rw[sn_wh];exact addE_3 sn_chk hx_verO (by rw[show idOf hxO=hxX from hx_x];exact(hx_in1 _).2 rfl)) (by decide)).1
theorem sn_bad:puE snV OpV.zero=8:=(pu_no (v:=snV) sn_okR (by rw[sn_wh];exact(addE_2 sn_chk (by rw[nm_bad];decide)).1.trans nm_bad) (by decide)).1
theorem sn_none(o:OpV):puE ShV.zero o=8:=(pu_8 fun h=>absurd h.1.1 (by decide)).1
/-! an operation whose predecessor is not there -/
def snX:List Int:=5::List.replicate 31 0
theorem sn_arr : Arr .u8 32 snX := ⟨rfl, fun x hx => by
 rcases List.mem_cons.1 hx with rfl | h2
 ·decide
 ·rw [List.eq_of_mem_replicate h2]; decide⟩
def snB:OpV:=⟨0,0,1,0,0,0,0,0,1,snX, .empty, .empty⟩
def snU:OpV:=⟨16,0,1,0,0,0,187256769,322464192,1,snX, .empty, .empty⟩
theorem sn_id:idOf snU=[149,247,94,98,17,1,59,57,121,103,10,240,222,176,114,176,210,138,161,54,178,241,50,166,213,172,106,109,160,219,177,197]:=by decide+kernel
theorem sn_non:nonceS 2 (msgS (snB.wit 2))=447950657:=by decide+kernel
theorem sn_r:pubS 447950657=792323237:=by
 unfold pubS;rw[pw_fast _ _ _ (by decide) (by decide)];decide+kernel
theorem sn_e:sigE 2 (msgS (snB.wit 2))=187256769:=by
 unfold sigE;rw[sn_non,sn_r,hx_pub2];decide+kernel
theorem sn_s:sigS 2 (msgS (snB.wit 2))=322464192:=by
 unfold sigS;rw[sn_non,sn_e];decide
theorem sn_okB:snB.ok:=⟨by decide,by decide,by decide,by decide,by decide,by decide,by decide,by decide,by decide,by decide,by decide⟩
theorem sn_okU:snU.ok:=⟨by decide,by decide,by decide,by decide,by decide,by decide,by decide,by decide,by decide,by decide,by decide⟩
theorem sn_signE:signE 2 snB=0:=signE_zero.2 ⟨by decide,check_zero.2 ⟨(by decide:(1:Nat)≤4),fun j hj=>absurd hj (Nat.not_lt_zero _),isG_pub 2 (by decide),(by decide:(0:Int)≤1000000000000),(by decide:(0:Int)<500000003),(by decide:(0:Int)<500000003), .inl ⟨rfl,rfl,rfl,rfl,rfl,rfl⟩⟩⟩
theorem sn_sign:signS 2 snB=snU:=by
 unfold signS;rw[if_pos sn_signE,sn_e,sn_s];unfold OpV.wit;rw[hx_pub2];rfl
theorem sn_ver:verE snU=0:=by
 have:=(sign_good sn_okB rfl sn_signE).2.2.2.2.2.2;rwa[sn_sign]at this
theorem sn_not:¬inS hxG.m hxG.ids snX:=fun h=>absurd ((hx_in1 _).1 h) (by decide)
theorem sn_open : puE snV snU = 40 := (pu_no (v := snV) sn_okR (by
 rw [sn_wh]
 refine addE_4 sn_chk sn_ver (fun h => ?_) fun h => ?_
 ·have h := (hx_in1 _).1 h
  rw [sn_id] at h
  exact absurd h (by decide)
 ·have h1 := h 0 (by decide)
  have e : idAt snU.ids 0 = snX := by decide
  rw [e] at h1
  exact sn_not h1) (by decide)).1
/-! what is found -/
theorem sn_get5:gtE snV snX=6:=(gt_6 (v:=snV) sn_okR (by rw[sn_wh];exact sn_not)).2
theorem sn_getX:gtE snV hxX=0∧gtO snV hxX=hxO:=by
 have hin:inS (whole snV.ps).m (whole snV.ps).ids hxX:=by
  rw[sn_wh];exact(hx_in1 _).2 rfl
 obtain⟨h1,h2⟩:=gt_0 (v:=snV) sn_okR hin;refine⟨h2,h1.trans ?_⟩;have e:whole snV.ps=snP:=sn_whole;rw[e]at hin⊢;have hi:=(ix_in hin).1;have e0:ixS snP.m snP.ids hxX=0:=by
  have:ixS snP.m snP.ids hxX<1:=hi;omega
 rw[e0];rfl
/-! what was changed is not valid -/
theorem sn_no{v:ShV}(h:chkH v=8):¬okR v:=fun k=>by rw[chkH_0 k]at h;exact absurd h (by decide)
theorem sn_chkV:chkH snV=0:=chkH_0 sn_okR
theorem sn_version:chkH {snV with ver:=2}=8:=chkH_8 fun h=>by
 have h1:(2:Int)=((whole [snP]).m:Nat):=h.2.2.2.1;rw[sn_whole]at h1;exact absurd h1 (by decide)
theorem sn_head{n:Nat}{x:List Int}(hx:x≠hxX):chkH {snV with hn:=n,hs:=x}=8:=chkH_8 fun h=>by
 have h1:x=hdI (whole [snP]):=h.2.2.2.2.1;rw[sn_whole,sn_hd.2]at h1;exact hx h1
theorem sn_wrong:chkH {snV with ps:=[snP,PG.nil]}=8:=chkH_8 fun h=>by
 have hw:∀p∈[snP,PG.nil],p.ids.length=32*p.m:=fun p hp=>by
  simp only[List.mem_cons,List.not_mem_nil,or_false]at hp;rcases hp with rfl|rfl<;>rfl
 have h1:=((ok_iff (v:= {snV with ps:=[snP,PG.nil]}) hw).1 h).2.1 0 (by decide);exact absurd (h1.2.2 0 (by decide)) (by decide)
theorem sn_short:chkH {snV with ps:=[⟨1,hxX,[]⟩]}=8:=chkH_8 fun h=>by
 have hw:∀p∈[(⟨1,hxX,[]⟩:PG)],p.ids.length=32*p.m:=fun p hp=>by
  obtain rfl:=List.mem_singleton.1 hp;rfl
 have h1:=((ok_iff (v:= {snV with ps:=[⟨1,hxX,[]⟩]}) hw).1 h).2.1 0 (by decide);exact absurd h1.1.2 (by decide)
theorem sn_five:chkH ⟨List.replicate 5 PG.nil,0,[],0⟩=8:=chkH_8 fun h=>absurd h.1.2 (by decide)
theorem sn_zero:chkH ShV.zero=8:=chkH_8 fun h=>absurd h.1.1 (by decide)
end S
end Go.Proofs.YtkibkhgcbepolaaGreatDoor
