/-
  Part 17 of the lemmas of these laws: TopDag.
-/
import Derived.Test.YtjjbdaiioociaaaGreatDoorPTd16
set_option linter.unusedVariables false
set_option linter.unusedSimpArgs false
open Go.Proofs.Tryz
namespace Go.Proofs.YtjjbdaiioociaaaGreatDoor
namespace W
open Go.RowKit G
set_option maxRecDepth 20000
set_option maxHeartbeats 8000000
attribute [local irreducible] RS RX RY Code.wp bodyPost J Ent.blk Ent.iown Ent.wrow Ent.wown Ent.gown Ent.all Ent.emp
instance:Ents prog 63:=⟨.mk func63 (by kernel_rfl) rfl⟩
instance:Ents prog 64:=⟨.mk func64 (by kernel_rfl) rfl⟩
instance:Ents prog 15:=⟨.mk func15 (by kernel_rfl) rfl⟩
instance:Ents prog 65:=⟨.mk func65 (by kernel_rfl) rfl⟩
instance:Ents prog 67:=⟨.mk func67 (by kernel_rfl) rfl⟩
theorem topBelow{S0 S1:Nat→Prop}(g:GrA)(s:StA)(v:S.StV)(rd:List Nat)(k:Int)(TK:TypeId)(w:World)(K0:Kst w TK)(G:GrR S0 w g)(h0:S.chkG g.m g.ids g.ops=0)(H:StR S1 w s)(hsv:s.V=v)(A:S.AtX g.P rd g.m v)(O:S.OrdX g.P rd)(hrl:rd.length=g.m)(hm12:g.m≤12):
    Calls prog 22 #[.agg (grC g).toArray, .agg (srC s).toArray, .int .i64 k] w (Ret w fun v _=>v= .bool true):=by
  have D0:=G.ids;have hgl:=G.len;have hcp:=G.cap;obtain⟨_,hmn,_,hr,ho0,_⟩:=S.chkG_zero.1 h0;have F:g.P.fine:=(S.chk_fine (g:=g.P) D0.len).1 h0;have hlt:∀y∈rd,y<g.m:=O.lt;have e1:s.os=S.osX g.P rd:=by
    have h1:s.os=v.os:=congrArg S.StV.os hsv;have h2:=A.os;rw[List.take_of_length_le (by omega)]at h2;exact h1.trans h2
  have e2:s.on=g.m:=(congrArg S.StV.n hsv).trans A.n;have D1:WRow .u8 32 S1 w s.oa s.on s.os:=H.os;refine J.enter 144 func22 rfl rfl ?_;refine run ?_;refine J.box rfl rfl rfl fun b3=>?_
  refine J.box rfl rfl rfl fun b4=>?_
  refine run ?_;refine J.spd rfl rfl rfl (fun c1=>?_) (fun c1=>?_)
  · refine run ?_
    refine J.call rfl rfl (fun w' M=>stSince s k TK w' (K0.ext M.ext) (H.ext M.ext)) fun q _=>?_
    rw[hsv,S.sinE_2 A.ok (fun h=>by have:=A.n;omega)];refine run ?_;exact J.fin rfl
  refine run ?_;refine J.ifd rfl (fun c2=>?_) (fun c2=>?_)
  · refine run ?_
    refine J.call rfl rfl (fun w' M=>stSince s k TK w' (K0.ext M.ext) (H.ext M.ext)) fun q _=>?_
    rw[hsv,S.sinE_2 A.ok (fun h=>by have:=A.n;omega)];refine run ?_;exact J.fin rfl
  obtain⟨ver,rfl⟩:∃n:Nat,k=(n:Int):=⟨k.toNat,by omega⟩
  have hver:ver≤g.m:=by omega
  have hE:S.sinE v ((ver:Nat):Int)=0:=S.sinE_0 A.ok ⟨by omega,by have:=A.n;omega⟩;obtain⟨hsn,hsL⟩:=S.sin_yes hE;rw[Int.toNat_natCast,A.n]at hsn;rw[Int.toNat_natCast]at hsL;obtain⟨sn,hsn'⟩:=ex (S.sinN v ((ver:Nat):Int));obtain⟨sL,hsL'⟩:=ex (S.sinL v ((ver:Nat):Int));rw[←hsn']at hsn;rw[←hsL',show v.os=S.osX g.P rd from(congrArg S.StV.os hsv).symm.trans e1]at hsL;refine run ?_;refine J.call rfl rfl (fun w' M=>stSince s (ver:Nat) TK w' (K0.ext M.ext) (H.ext M.ext)) fun qs hqs=>?_
  rw[hsv,hE,←hsn',←hsL'];rw[hsv,←hsn']at hqs;refine run ?_;refine J.spn rfl rfl rfl (fun c=>by omega) (fun _=>?_);refine run ?_;refine J.ifn rfl (fun c=>by omega) (fun _=>?_);refine run ?_;refine J.noA ?_;refine J.re (.all []) (.all (([]:List OpA).map bwW)) (fun _ _ h=>h) ?_;refine J.nilG opC 11 34 opC_len ?_;refine J.loop (A:=BwA) (fun p=>[(11, .slice p.a p.i p.c),(12, .int .i64 (p.i:Nat))]) [6,13,14,67,68,69,70,71,72,73,74,75,76,77,78,79,80,81,82,83,84,85,86,87,88,89,90,91,92] (fun p=>[.gown opC 11 34 p.a p.i p.c p.zs, .all (p.zs.map bwW), .wown 23 .u8 32 qs.1 sn qs.2 sL, .blk b4 (srC s) 74, .blk b3 (grC g) 65]) (fun p=>p.i≤ver∧p.zs.map OpA.o=(rd.take p.i).map (fun a=>g.ops.getD a S.OpV.zero)∧∀z∈p.zs,z.o.n≤z.pc) (fun p=>ver - p.i) ⟨0,none,0,[]⟩ (by kernel_rfl) ⟨Nat.zero_le _,rfl,fun z hz=>(by cases hz)⟩ (fun p j hI=>?_);obtain⟨i,pa,pc,zs⟩:=p;dsimp only at hI⊢;obtain⟨hi,hz1,hz2⟩:=hI;refine run ?_;refine J.ifd rfl (fun d1=>?_) (fun d1=>?_)
  · have him:i<rd.length:=by omega
    obtain⟨xi,hxi⟩:=ex (rd.getD i 0);have hxm:xi<g.m:=hxi▸hlt _ (S.getD_mem him);have he:S.idAt g.ids xi=elt 32 s.os i:=by rw[hxi,e1];exact(S.osX_at F.good hlt him).symm
    obtain⟨o,ho⟩:=ex (g.ops.getD xi S.OpV.zero);obtain⟨z0,hz0⟩:=G.ops.ex (i:=((xi:Nat):Int)) (by omega);rw[Int.toNat_natCast]at hz0;have hok:o.ok:=by rw[ho,GrA.opAt hz0];exact G.ok z0 (List.mem_of_getElem? hz0)
    have hvo:S.verE o=0:=by rw[ho];exact(F.own _ _ ⟨xi,hxm,rfl,rfl⟩).1
    have hco:=S.verE_check hvo;refine run ?_
    refine J.regionF (δ:=OdW) (default) [⟨some 73,fun c=> .agg (grC g).toArray,fun c=>[],fun c=>True,[],[],[]⟩,⟨some 74,fun c=> .pointer (some ⟨b4,4,none⟩),fun c=>[],fun c=>True,[],[],[]⟩,⟨some 75,fun c=> .slice s.oa s.on s.oc,fun c=>[],fun c=>True,[1],[],[]⟩,⟨some 76,fun c=> .int .i64 (i:Nat),fun c=>[],fun c=>True,[],[],[]⟩,⟨some 77,fun c=>pt s.oa (((i:Nat):Int).toNat*32),fun c=>[],fun c=>True,[2,3],[],[]⟩,⟨some 78,fun c=> .agg (ints .u8 (S.idAt g.ids xi)).toArray,fun c=>[],fun c=>True,[4],[],[]⟩,⟨some 79,fun c=> .tuple #[.agg (opC (c 6).z).toArray, .int .i64 0],fun c=>[.wrow .u8 32 (c 6).z.pa (c 6).z.o.n (c 6).z.o.ids],fun c=>(c 6).z.o.n≤(c 6).z.pc∧(c 6).z.o=o,[0,5],[],[]⟩,⟨some 72,fun c=> .tuple #[.agg (opC (c 6).z).toArray, .int .i64 0],fun c=>[],fun c=>True,[6],[],[]⟩,⟨some 80,fun c=> .agg (opC (c 6).z).toArray,fun c=>[],fun c=>True,[6,7],[],[]⟩,⟨some 81,fun c=> .int .i64 0,fun c=>[],fun c=>True,[7],[],[]⟩,⟨some 13,fun c=> .pointer (some ⟨(c 10).b,0,none⟩),fun c=>[.blk (c 10).b (opC ⟨S.OpV.zero,none,0⟩) 34],fun c=>True,[],[],[]⟩,⟨none,fun c=>undef,fun c=>[.blk (c 10).b (opC (c 6).z) 34],fun c=>True,[6,8,10],[10],[10]⟩,⟨some 14,fun c=> .int .i64 0,fun c=>[],fun c=>True,[9],[],[]⟩] [] (fun c=>[(73, .agg (grC g).toArray),(74, .pointer (some ⟨b4,4,none⟩)),(75, .slice s.oa s.on s.oc),(76, .int .i64 (i:Nat)),(77,pt s.oa (((i:Nat):Int).toNat*32)),(78, .agg (ints .u8 (S.idAt g.ids xi)).toArray),(79, .tuple #[.agg (opC (c 6).z).toArray, .int .i64 0]),(72, .tuple #[.agg (opC (c 6).z).toArray, .int .i64 0]),(80, .agg (opC (c 6).z).toArray),(81, .int .i64 0),(13, .pointer (some ⟨(c 10).b,0,none⟩)),(14, .int .i64 0)]) (fun c=>[.wrow .u8 32 (c 6).z.pa (c 6).z.o.n (c 6).z.o.ids, .blk (c 10).b (opC (c 6).z) 34]) mixed (by kernel_rfl) rfl trivial ⟨?_,?_,?_,?_,?_,?_,?_,?_,?_,?_,?_,?_,?_,trivial⟩ (fun _=>by kernel_rfl) (fun _=>by kernel_rfl) (fun c hp=>?_)
    · refine stepF.i .q (fun c=>[]) (fun c=>[]) (fun c x=>[]) (fun c x=> .agg (grC g).toArray) (fun c=>True) (fun c x=>True) (fun c=>[]) [73,74,75,76,77,78,79,72,80,81,13,14] (some 73) (fun F c v hp=>?_) (fun _=>by kernel_rfl) (fun _=>by kernel_rfl) (fun _ _=>by kernel_rfl) (fun _ _=>by kernel_rfl) (fun c h=>trivial) (fun c x h=>h) (fun _=>by kernel_rfl) (by kernel_rfl) (by kernel_rfl)
      refine run ?_
      (refine J.nil ?_;exact J.outF (default) (trivial) rfl (by(try dsimp only[List.cons_append,List.nil_append]);repeat(first|exact List.nil_sublist _|exact List.Sublist.refl _|refine List.Sublist.cons_cons _ ?_|refine List.Sublist.cons _ ?_)))
    · refine stepF.i .q (fun c=>[]) (fun c=>[]) (fun c x=>[]) (fun c x=> .pointer (some ⟨b4,4,none⟩)) (fun c=>True) (fun c x=>True) (fun c=>[]) [73,74,75,76,77,78,79,72,80,81,13,14] (some 74) (fun F c v hp=>?_) (fun _=>by kernel_rfl) (fun _=>by kernel_rfl) (fun _ _=>by kernel_rfl) (fun _ _=>by kernel_rfl) (fun c h=>trivial) (fun c x h=>h) (fun _=>by kernel_rfl) (by kernel_rfl) (by kernel_rfl)
      refine run ?_
      (refine J.nil ?_;exact J.outF (default) (trivial) rfl (by(try dsimp only[List.cons_append,List.nil_append]);repeat(first|exact List.nil_sublist _|exact List.Sublist.refl _|refine List.Sublist.cons_cons _ ?_|refine List.Sublist.cons _ ?_)))
    · refine stepF.i .q (fun c=>[]) (fun c=>[]) (fun c x=>[]) (fun c x=> .slice s.oa s.on s.oc) (fun c=>True) (fun c x=>True) (fun c=>[(74, .pointer (some ⟨b4,4,none⟩))]) [73,75,76,77,78,79,72,80,81,13,14] (some 75) (fun F c v hp=>?_) (fun _=>by kernel_rfl) (fun _=>by kernel_rfl) (fun _ _=>by kernel_rfl) (fun _ _=>by kernel_rfl) (fun c h=>trivial) (fun c x h=>h) (fun _=>by kernel_rfl) (by kernel_rfl) (by kernel_rfl)
      refine run ?_
      (refine J.nil ?_;exact J.outF (default) (trivial) rfl (by(try dsimp only[List.cons_append,List.nil_append]);repeat(first|exact List.nil_sublist _|exact List.Sublist.refl _|refine List.Sublist.cons_cons _ ?_|refine List.Sublist.cons _ ?_)))
    · refine stepF.i .q (fun c=>[]) (fun c=>[]) (fun c x=>[]) (fun c x=> .int .i64 (i:Nat)) (fun c=>True) (fun c x=>True) (fun c=>[]) [73,74,75,76,77,78,79,72,80,81,13,14] (some 76) (fun F c v hp=>?_) (fun _=>by kernel_rfl) (fun _=>by kernel_rfl) (fun _ _=>by kernel_rfl) (fun _ _=>by kernel_rfl) (fun c h=>trivial) (fun c x h=>h) (fun _=>by kernel_rfl) (by kernel_rfl) (by kernel_rfl)
      refine run ?_
      (refine J.nil ?_;exact J.outF (default) (trivial) rfl (by(try dsimp only[List.cons_append,List.nil_append]);repeat(first|exact List.nil_sublist _|exact List.Sublist.refl _|refine List.Sublist.cons_cons _ ?_|refine List.Sublist.cons _ ?_)))
    · refine stepF.i .q (fun c=>[]) (fun c=>[]) (fun c x=>[]) (fun c x=>pt s.oa (((i:Nat):Int).toNat*32)) (fun c=>True) (fun c x=>True) (fun c=>[(75, .slice s.oa s.on s.oc),(76, .int .i64 (i:Nat))]) [73,74,77,78,79,72,80,81,13,14] (some 77) (fun F c v hp=>?_) (fun _=>by kernel_rfl) (fun _=>by kernel_rfl) (fun _ _=>by kernel_rfl) (fun _ _=>by kernel_rfl) (fun c h=>trivial) (fun c x h=>h) (fun _=>by kernel_rfl) (by kernel_rfl) (by kernel_rfl)
      refine run ?_
      (refine J.nil ?_;exact J.outF (default) (trivial) rfl (by(try dsimp only[List.cons_append,List.nil_append]);repeat(first|exact List.nil_sublist _|exact List.Sublist.refl _|refine List.Sublist.cons_cons _ ?_|refine List.Sublist.cons _ ?_)))
    · refine stepF.i .q (fun c=>[]) (fun c=>[]) (fun c x=>[]) (fun c x=> .agg (ints .u8 (S.idAt g.ids xi)).toArray) (fun c=>True) (fun c x=>True) (fun c=>[(77,pt s.oa (((i:Nat):Int).toNat*32))]) [73,74,75,76,78,79,72,80,81,13,14] (some 78) (fun F c v hp=>?_) (fun _=>by kernel_rfl) (fun _=>by kernel_rfl) (fun _ _=>by kernel_rfl) (fun _ _=>by kernel_rfl) (fun c h=>trivial) (fun c x h=>h) (fun _=>by kernel_rfl) (by kernel_rfl) (by kernel_rfl)
      refine J.ldW (i:=((i:Nat):Int)) (q:=S.idAt g.ids xi) rfl (RW.arg D1) ?_ (hq:=he)
      (refine J.nil ?_;exact J.outF (default) (trivial) rfl (by(try dsimp only[List.cons_append,List.nil_append]);repeat(first|exact List.nil_sublist _|exact List.Sublist.refl _|refine List.Sublist.cons_cons _ ?_|refine List.Sublist.cons _ ?_)))
    · refine stepF.i .e (fun c=>[]) (fun c=>[]) (fun c x=>[.wrow .u8 32 (x).z.pa (x).z.o.n (x).z.o.ids]) (fun c x=> .tuple #[.agg (opC (x).z).toArray, .int .i64 0]) (fun c=>True) (fun c x=>(x).z.o.n≤(x).z.pc∧(x).z.o=o) (fun c=>[(73, .agg (grC g).toArray),(78, .agg (ints .u8 (S.idAt g.ids xi)).toArray)]) [74,75,76,77,79,72,80,81,13,14] (some 79) (fun F c v hp=>?_) (fun _=>by kernel_rfl) (fun _=>by kernel_rfl) (fun _ _=>by kernel_rfl) (fun _ _=>by kernel_rfl) (fun c h=>trivial) (fun c x h=>h) (fun _=>by kernel_rfl) (by kernel_rfl) (by kernel_rfl)
      refine run ?_;refine J.call rfl rfl (fun w' M=>getF g xi TK w' (K0.ext M.ext) (G.ext M.ext) h0 hxm) fun z hz5=>?_
      (refine J.nil ?_;exact J.outF (⟨0,z⟩) (⟨hz5.1,hz5.2.trans ho.symm⟩) rfl (by(try dsimp only[List.cons_append,List.nil_append]);repeat(first|exact List.nil_sublist _|exact List.Sublist.refl _|refine List.Sublist.cons_cons _ ?_|refine List.Sublist.cons _ ?_)))
    · refine stepF.i .q (fun c=>[]) (fun c=>[]) (fun c x=>[]) (fun c x=> .tuple #[.agg (opC (c 6).z).toArray, .int .i64 0]) (fun c=>((c 6).z.o.n≤(c 6).z.pc∧(c 6).z.o=o)∧True) (fun c x=>True) (fun c=>[(79, .tuple #[.agg (opC (c 6).z).toArray, .int .i64 0])]) [73,74,75,76,77,78,72,80,81,13,14] (some 72) (fun F c v hp=>?_) (fun _=>by kernel_rfl) (fun _=>by kernel_rfl) (fun _ _=>by kernel_rfl) (fun _ _=>by kernel_rfl) (fun c h=>⟨h 6 (hasN_iff.1 rfl),trivial⟩) (fun c x h=>h) (fun _=>by kernel_rfl) (by kernel_rfl) (by kernel_rfl)
      obtain⟨hzz,_⟩:=hp;refine run ?_
      (refine J.nil ?_;exact J.outF (default) (trivial) rfl (by(try dsimp only[List.cons_append,List.nil_append]);repeat(first|exact List.nil_sublist _|exact List.Sublist.refl _|refine List.Sublist.cons_cons _ ?_|refine List.Sublist.cons _ ?_)))
    · refine stepF.i .q (fun c=>[]) (fun c=>[]) (fun c x=>[]) (fun c x=> .agg (opC (c 6).z).toArray) (fun c=>((c 6).z.o.n≤(c 6).z.pc∧(c 6).z.o=o)∧True) (fun c x=>True) (fun c=>[(79, .tuple #[.agg (opC (c 6).z).toArray, .int .i64 0]),(72, .tuple #[.agg (opC (c 6).z).toArray, .int .i64 0])]) [73,74,75,76,77,78,80,81,13,14] (some 80) (fun F c v hp=>?_) (fun _=>by kernel_rfl) (fun _=>by kernel_rfl) (fun _ _=>by kernel_rfl) (fun _ _=>by kernel_rfl) (fun c h=>⟨h 6 (hasN_iff.1 rfl),trivial⟩) (fun c x h=>h) (fun _=>by kernel_rfl) (by kernel_rfl) (by kernel_rfl)
      obtain⟨hzz,_⟩:=hp;refine run ?_
      (refine J.nil ?_;exact J.outF (default) (trivial) rfl (by(try dsimp only[List.cons_append,List.nil_append]);repeat(first|exact List.nil_sublist _|exact List.Sublist.refl _|refine List.Sublist.cons_cons _ ?_|refine List.Sublist.cons _ ?_)))
    · refine stepF.i .q (fun c=>[]) (fun c=>[]) (fun c x=>[]) (fun c x=> .int .i64 0) (fun c=>True) (fun c x=>True) (fun c=>[(72, .tuple #[.agg (opC (c 6).z).toArray, .int .i64 0])]) [73,74,75,76,77,78,79,80,81,13,14] (some 81) (fun F c v hp=>?_) (fun _=>by kernel_rfl) (fun _=>by kernel_rfl) (fun _ _=>by kernel_rfl) (fun _ _=>by kernel_rfl) (fun c h=>trivial) (fun c x h=>h) (fun _=>by kernel_rfl) (by kernel_rfl) (by kernel_rfl)
      refine run ?_
      (refine J.nil ?_;exact J.outF (default) (trivial) rfl (by(try dsimp only[List.cons_append,List.nil_append]);repeat(first|exact List.nil_sublist _|exact List.Sublist.refl _|refine List.Sublist.cons_cons _ ?_|refine List.Sublist.cons _ ?_)))
    · refine stepF.i .e (fun c=>[]) (fun c=>[]) (fun c x=>[.blk (x).b (opC ⟨S.OpV.zero,none,0⟩) 34]) (fun c x=> .pointer (some ⟨(x).b,0,none⟩)) (fun c=>True) (fun c x=>True) (fun c=>[]) [73,74,75,76,77,78,79,72,80,81,13,14] (some 13) (fun F c v hp=>?_) (fun _=>by kernel_rfl) (fun _=>by kernel_rfl) (fun _ _=>by kernel_rfl) (fun _ _=>by kernel_rfl) (fun c h=>trivial) (fun c x h=>h) (fun _=>by kernel_rfl) (by kernel_rfl) (by kernel_rfl)
      refine run ?_;refine J.alloc rfl fun b=>?_
      (refine J.nil ?_;exact J.outF (⟨b,⟨S.OpV.zero,none,0⟩⟩) (trivial) rfl (by(try dsimp only[List.cons_append,List.nil_append]);repeat(first|exact List.nil_sublist _|exact List.Sublist.refl _|refine List.Sublist.cons_cons _ ?_|refine List.Sublist.cons _ ?_)))
    · refine stepF.i .e (fun c=>[.blk (c 10).b (opC ⟨S.OpV.zero,none,0⟩) 34]) (fun c=>[]) (fun c x=>[.blk (c 10).b (opC (c 6).z) 34]) (fun c x=>undef) (fun c=>((c 6).z.o.n≤(c 6).z.pc∧(c 6).z.o=o)∧True) (fun c x=>True) (fun c=>[(79, .tuple #[.agg (opC (c 6).z).toArray, .int .i64 0]),(80, .agg (opC (c 6).z).toArray),(13, .pointer (some ⟨(c 10).b,0,none⟩))]) [73,74,75,76,77,78,72,81,14] (none) (fun F c v hp=>?_) (fun _=>by kernel_rfl) (fun _=>by kernel_rfl) (fun _ _=>by kernel_rfl) (fun _ _=>by kernel_rfl) (fun c h=>⟨h 6 (hasN_iff.1 rfl),trivial⟩) (fun c x h=>h) (fun _=>by kernel_rfl) (by kernel_rfl) (by kernel_rfl)
      obtain⟨hzz,_⟩:=hp;refine run ?_
      (refine J.nil ?_;exact J.outF (default) (trivial) rfl (by(try dsimp only[List.cons_append,List.nil_append]);repeat(first|exact List.nil_sublist _|exact List.Sublist.refl _|refine List.Sublist.cons_cons _ ?_|refine List.Sublist.cons _ ?_)))
    · refine stepF.i .q (fun c=>[]) (fun c=>[]) (fun c x=>[]) (fun c x=> .int .i64 0) (fun c=>True) (fun c x=>True) (fun c=>[(81, .int .i64 0)]) [73,74,75,76,77,78,79,72,80,13,14] (some 14) (fun F c v hp=>?_) (fun _=>by kernel_rfl) (fun _=>by kernel_rfl) (fun _ _=>by kernel_rfl) (fun _ _=>by kernel_rfl) (fun c h=>trivial) (fun c x h=>h) (fun _=>by kernel_rfl) (by kernel_rfl) (by kernel_rfl)
      refine run ?_
      (refine J.nil ?_;exact J.outF (default) (trivial) rfl (by(try dsimp only[List.cons_append,List.nil_append]);repeat(first|exact List.nil_sublist _|exact List.Sublist.refl _|refine List.Sublist.cons_cons _ ?_|refine List.Sublist.cons _ ?_)))
    obtain⟨-, -, -, -, -, -,(hzz:(c 6).z.o.n≤(c 6).z.pc∧(c 6).z.o=o), -, -, -, -, -, -, -⟩:=hp;generalize c 6=u6 at*;generalize c 10=u10 at*;obtain⟨_,z⟩:=u6;obtain⟨b13,_⟩:=u10;dsimp only at hzz⊢;obtain⟨hzc,rfl⟩:=hzz;refine run ?_;refine J.callp rfl rfl (fun w' M=>(RW.row' (a:=z.pa) w' M).elim fun _ k=>checkOR z.o hok z.pa z.pc w' k hzc) ?_;rw[hco];refine run ?_;refine J.b1G opC z opC_len rfl rfl rfl fun bb=>?_
    refine J.apG rfl rfl RG.own' opC_one fun a' c'=>?_
    refine run ?_;refine J.snocA (zs.map bwW) (bwW z) ?_;refine J.re (.all (zs.map bwW++[bwW z])) (.all ((zs++[z]).map bwW)) (fun _ _ h=>by rw[List.map_append];exact h) ?_;refine J.front (.all ((zs++[z]).map bwW)) ?_;refine J.front (.gown opC 11 34 a' (i+1) c' (zs++[z])) ?_;refine J.drop (E:=[.gown opC 11 34 a' (i+1) c' (zs++[z]), .all ((zs++[z]).map bwW), .wown 23 .u8 32 qs.1 sn qs.2 sL, .blk b4 (srC s) 74, .blk b3 (grC g) 65]) sb ?_
    exact J.next ⟨i + 1, a', c', zs ++ [z]⟩ ⟨rfl, rfl, trivial⟩ (by kernel_rfl) ⟨by dsimp only; omega, by dsimp only; rw [List.map_append, hz1, S.take_snoc_get rd i him, List.map_append, ← hxi, List.map_cons, List.map_cons, List.map_nil, List.map_nil, ho], fun y hy => (List.mem_append.1 hy).elim (hz2 y) fun hy => by
      obtain rfl := List.mem_singleton.1 hy
      exact hzc⟩ (by dsimp only; omega)
  obtain rfl:i=ver:=by omega
  obtain⟨u,U⟩:=S.at_ex F O (show g.P.m≤39 from by show g.m≤39;omega) i (by omega);have Pt:=U.part;obtain⟨Q,hQ⟩:=ex (S.whole u.sh.ps);rw[←hQ]at Pt;obtain⟨p1,p2⟩:=S.part_ops F O Pt (by omega);have gok:∀a,a<g.m→(g.ops.getD a S.OpV.zero).ok:=fun a ha=>by
    obtain⟨y,hy⟩:=G.ops.ex (i:=((a:Nat):Int)) (by omega);rw[Int.toNat_natCast]at hy;rw[GrA.opAt hy];exact G.ok y (List.mem_of_getElem? hy)
  have zok:∀z∈zs,z.o.ok:=fun z hz=>by
    have h1:z.o∈(rd.take i).map (fun a=>g.ops.getD a S.OpV.zero):=hz1▸List.mem_map.2 ⟨z,hz,rfl⟩;obtain⟨a,ha,e⟩:=List.mem_map.1 h1;rw[←e];exact gok a (hlt a (List.mem_of_mem_take ha))
  have Qok:∀o∈Q.ops,o.ok:=fun o ho=>by
    obtain⟨j,hj,e⟩:=List.getElem_of_mem ho;obtain⟨k,hk,_,e3⟩:=(Pt.has (S.idAt Q.ids j) o).1 ⟨j,by rw[←Pt.fine.good.2];exact hj,rfl,by rw[S.getD_at hj,e]⟩;rw[e3];exact gok _ (hlt _ (S.getD_mem (by omega)))
  have hQm:Q.m=i:=Pt.m;obtain⟨d1',d2',d3'⟩:=S.hd_all Pt.fine;have hdle:S.hdN Q≤Q.m:=S.numF_le _ _;have hinQ:∀x,S.inS Q.m Q.ids x→S.inS g.m g.ids x:=fun x hx=>by
    obtain⟨o,ho⟩:=S.has_in.1 hx;obtain⟨k,hk,e,_⟩:=(Pt.has _ _).1 ho;exact⟨_,hlt _ (S.getD_mem (by omega)),e.symm⟩
  have hin:S.allI g.m g.ids (S.hdN Q) (S.hdI Q):=fun j hj=>hinQ _ ((d3' _).1 ⟨j,hj,rfl⟩).1;have hjs:∀a,a∈jsX g.P (S.hdI Q) (S.hdN Q)↔a<g.P.m∧S.inS (S.hdN Q) (S.hdI Q) (S.idAt g.P.ids a):=fun a=>by
    unfold jsX;rw[List.mem_map];constructor
    · rintro⟨j,hj,rfl⟩
      have hj:=List.mem_range.1 hj;obtain⟨q1,q2⟩:=S.ix_in (hin j hj);exact⟨q1,j,hj,q2.symm⟩
    · rintro⟨ha,j,hj,e⟩
      exact⟨j,List.mem_range.2 hj,by rw[e];exact S.ix_eq hr ha⟩
  obtain⟨l1,l2⟩:=S.lost_is F O (by show g.m≤rd.length;omega) Pt (by omega);have l3:S.allI (S.numF (S.absF Q.m Q.ids g.ids) g.m) (S.selF (S.absF Q.m Q.ids g.ids) g.ids g.m) sn sL:=fun j hj=>by
    have h1:=S.lost_all F O Pt (show i≤rd.length by omega) (k:=i+j) (by omega) (by omega);rw[hsL,S.idAt_drop,S.osX_at F.good hlt (by omega)];exact h1
  have l1:S.numF (S.absF Q.m Q.ids g.ids) g.m=sn:=l1.trans hsn.symm;refine run ?_;refine J.call rfl rfl (fun w' M=>(RG.own' (a:=pa) w' M).elim fun _ k0=>ofFine pa i pc zs TK w' (K0.ext M.ext) k0 (bwInn hz2 w' M) zok (by omega) hz1 p1 p2) fun fq hfq=>?_
  dsimp only[grE,List.cons_append,List.nil_append];have hfk:=hfq.ok Qok;have hfz:=GrP.sz (P:=Q) hfq ⟨Pt.fine.good,Pt.fine.le⟩;have fP:=GrP.P (P:=Q) hfq;have hfm:fq.m=Q.m:=hfq.m;have hfi:fq.ids=Q.ids:=hfq.ids;have hf0:S.chkG fq.m fq.ids fq.ops=0:=by rw[hfq.m,hfq.ids,hfq.ops];exact(S.chk_fine Pt.fine.good.1).2 Pt.fine
  refine run ?_;refine J.alloc rfl fun b15=>?_
  refine run ?_;refine J.call rfl rfl (fun w' M=>ancHeads fq TK w' (K0.ext M.ext) (GrR.own hfk hfq.cap hfz w' M) hf0) fun qh hqh=>?_
  obtain⟨qha,qhn,qhc⟩:=qh;rw[fP]at hqh⊢;dsimp only at hqh⊢;obtain rfl:qhn=S.hdN Q:=hqh;refine J.fact (.wown 23 .u8 32 qha (S.hdN Q) qhc (S.hdI Q)) (fun _ _ h=>(wown_len h).2) fun hqc=>?_
  refine run ?_;refine J.call rfl rfl (fun w' M=>(RW.own' (a:=qha) w' M).elim fun _ k0=>ancBelow g qha (S.hdN Q) qhc (S.hdI Q) TK w' (K0.ext M.ext) (G.ext M.ext) h0 k0 hqc d2' (by omega) hin) fun bq hbq=>?_
  dsimp only[grE,List.cons_append,List.nil_append];obtain⟨fr,k1,k2⟩:=hbq;rw[show S.selP (fun a=>fr.getD a false) g.P g.m=Q from S.below_is F O Pt (by omega) k1 hjs]at k2;have hbk:=k2.ok Qok;have hbz:=GrP.sz (P:=Q) k2 ⟨Pt.fine.good,Pt.fine.le⟩;refine run ?_;refine J.alloc rfl fun b19=>?_
  refine run ?_;refine J.call rfl rfl (fun w' M=>ancMissing fq g.ia g.m g.ic g.ids TK w' (K0.ext M.ext) (GrR.own hfk hfq.cap hfz w' M) hf0 (D0.ext M.ext) hcp.1 hr hm12) fun ql hql=>?_
  obtain⟨qla,qln,qlc⟩:=ql;rw[hfm,hfi]at hql;rw[show S.selF (S.absF fq.m fq.ids g.ids) g.ids g.m=S.selF (S.absF Q.m Q.ids g.ids) g.ids g.m from by rw[hfm,hfi]];dsimp only at hql⊢;obtain rfl:qln=sn:=hql.trans l1;refine run ?_;refine J.callp rfl rfl (fun w' M=>refGSame bq fq w' (GrR.own hbk k2.cap hbz w' M) (GrR.own hfk hfq.cap hfz w' M)) ?_;rw[show decide (bq.ids=fq.ids∧bq.ops=fq.ops)=true from decide_eq_true ⟨k2.ids.trans hfq.ids.symm,k2.ops.trans hfq.ops.symm⟩];refine run ?_;refine J.spe rfl rfl rfl (fun _=>?_) (fun c=>absurd rfl c);refine run ?_;refine J.callp rfl rfl (fun w' M=>(RW.own' (a:=qla) w' M).elim fun _ k0=>(RW.own' (a:=qs.1) w' M).elim fun _ k1=>refAll qla qs.1 _ _ _ _ _ _ w' k0 k1 (by omega) (by omega)) ?_;rw[l1]at l3;rw[decide_eq_true l3];refine run ?_;exact J.fin rfl
instance:SInf prog 30 [(0,1),(1,1),(2,4)]:=⟨_,underlying30,by kernel_rfl,by kernel_rfl⟩
instance:Inf prog 30 6 64 [.int .u8 0, .string .empty, .int .u8 0, .int .i64 0, .int .u64 0, .string .empty]:=⟨TI.of (v:= .agg #[.int .u8 0, .string .empty, .int .u8 0, .int .i64 0, .int .u64 0, .string .empty]) (by kernel_rfl) rfl⟩
instance:Ents prog 40:=⟨.mk func40 (by kernel_rfl) rfl⟩
theorem oneInn{S1:Nat→Prop}{w:World}{z:OpA}(D:WRow .u8 32 S1 w z.pa z.o.n z.o.ids)(hc:z.o.n≤z.pc):Inns opI (fun _=>True) w [z]:=fun y hy i hi=>by
  obtain rfl:=List.mem_singleton.1 hy;obtain rfl:=List.mem_singleton.1 hi;exact⟨D.weaken fun _ _ _=>trivial,hc⟩
theorem signP(TK:TypeId)(w:World)(K0:Kst w TK):Calls prog 40 #[.int .u32 3, .agg (opC ⟨S.hxA,none,0⟩).toArray] w (Gv w (fun q:Option Addr×Nat=> .tuple #[.agg (opC ⟨S.hxP,q.1,q.2⟩).toArray, .int .i64 0]) (fun q=>[.wrow .u8 32 q.1 0 []]) fun _=>True):=
  (signH 3 (by decide) (S0:=no) ⟨S.hxA,none,0⟩ TK w K0 ⟨S.hx_okA,WRow.nil,Nat.le_refl _⟩).mono fun _ w' ⟨⟨⟨o,pa,pc⟩,e⟩,h1,⟨h2,h3,h4⟩,h5,h6⟩=>by
    obtain rfl:o=S.hxP:=h3.trans S.hx_sign3;obtain rfl:e=0:=h4.trans S.hx_signE3;exact⟨(pa,pc),h1,trivial,h5,h6⟩
theorem topAlive(TK:TypeId)(w:World)(K0:Kst w TK):Calls prog 14 #[] w (Ret w fun v _=>v= .bool true):=by
  obtain⟨x1,x2,x3,x4,x5⟩:=S.top_one;obtain⟨Q,hQ⟩:=ex (S.lstP [S.hxP]);rw[←hQ]at x2 x3 x4 x5;have x0:=hQ.symm;refine J.enter 45 func14 rfl rfl ?_;refine run ?_;refine J.call rfl rfl (fun w' M=>signP TK w' (K0.ext M.ext)) fun q _=>?_
  obtain⟨pa,pc⟩:=q;dsimp only;refine run ?_;refine J.alloc rfl fun b1=>?_
  refine run ?_;refine J.b1G opC ⟨S.hxP,pa,pc⟩ opC_len rfl rfl rfl fun b2=>?_
  refine run ?_
  refine J.call rfl rfl (fun w' M => (RG.own' (a := some ⟨b2, 0, none⟩) w' M).elim fun _ k0 => (RW.row' (a := pa) w' M).elim fun _ k1 => ofFine _ 1 1 [⟨S.hxP, pa, pc⟩] TK w' (K0.ext M.ext) k0 (oneInn (z := ⟨S.hxP, pa, pc⟩) k1 (Nat.zero_le _)) (fun z hz => by
    obtain rfl := List.mem_singleton.1 hz
    exact S.hx_okP) (by decide) (l := [S.hxP]) rfl x1 x0) fun fq hfq => ?_
  dsimp only[grE,List.cons_append,List.nil_append];have Qok:∀o∈Q.ops,o.ok:=fun o ho=>by
    rw[←x0]at ho
    exact lst_ok (fun o ho => by
      obtain rfl := List.mem_singleton.1 ho
      exact S.hx_okP) o ho
  have hfk:=hfq.ok Qok;have hfz:=GrP.sz (P:=Q) hfq ⟨x5.good,x5.le⟩;have fP:=GrP.P (P:=Q) hfq;have hf0:S.chkG fq.m fq.ids fq.ops=0:=by rw[hfq.m,hfq.ids,hfq.ops];exact(S.chk_fine x5.good.1).2 x5
  refine run ?_;refine J.alloc rfl fun b3=>?_
  refine run ?_;refine J.call rfl rfl (fun w' M=>ancHeads fq TK w' (K0.ext M.ext) (GrR.own hfk hfq.cap hfz w' M) hf0) fun qh hqh=>?_
  obtain⟨qha,qhn,qhc⟩:=qh;rw[fP,x3]at hqh;rw[fP,x4,←hfq.ids];dsimp only at hqh⊢;obtain rfl:qhn=1:=hqh;have hf1:fq.m=1:=hfq.m.trans x2;refine run ?_;refine J.callp rfl rfl (fun w' M=>(RW.own' (a:=qha) w' M).elim fun _ k0=>(RW.own' (a:=fq.ia) w' M).elim fun _ k1=>sameIDs _ _ _ _ _ _ _ _ w' k0 k1 (by omega) (by omega)) ?_;rw[show decide (fq.ids=fq.ids)=true from decide_eq_true rfl];refine run ?_;exact J.fin rfl
instance:Ents prog 13:=⟨.mk func13 (by kernel_rfl) rfl⟩
instance:Ents prog 14:=⟨.mk func14 (by kernel_rfl) rfl⟩
instance:Ents prog 17:=⟨.mk func17 (by kernel_rfl) rfl⟩
instance:Ents prog 18:=⟨.mk func18 (by kernel_rfl) rfl⟩
instance:Ents prog 19:=⟨.mk func19 (by kernel_rfl) rfl⟩
instance:Ents prog 21:=⟨.mk func21 (by kernel_rfl) rfl⟩
instance:Ents prog 22:=⟨.mk func22 (by kernel_rfl) rfl⟩
theorem topDag{S2:Nat→Prop}(la:Option Addr)(n lc:Nat)(zs:List OpA)(m1 m2 k:Int)(TK:TypeId)(w:World)(K0:Kst w TK)(Z:GrI S2 w ⟨none,la,0,n,0,lc,[],zs⟩):
    Calls prog 4 #[.slice la n lc, .int .i64 m1, .int .i64 m2, .int .i64 k] w (Ret w fun v _=>v= .bool true):=by
  refine J.enter 130 func4 rfl rfl ?_;refine run ?_;refine J.spd rfl rfl rfl (fun c1=>?_) (fun c1=>?_)
  · refine run ?_
    exact J.fin rfl
  refine run ?_;refine J.call rfl rfl (fun w' M=>refLarge la n lc zs w' (Z.ext M.ext)) fun q4 hq4=>?_
  refine run ?_;refine J.sp rfl rfl rfl (fun c2=>?_) (fun c2=>?_)
  · refine run ?_
    exact J.fin rfl
  refine run ?_;refine J.spd rfl rfl rfl (fun c3=>?_) (fun c3=>?_)
  · refine run ?_
    exact J.fin rfl
  refine run ?_;refine J.spd rfl rfl rfl (fun c4=>?_) (fun c4=>?_)
  · refine run ?_
    exact J.fin rfl
  refine run ?_;refine J.spd rfl rfl rfl (fun c5=>?_) (fun c5=>?_)
  · refine run ?_
    exact J.fin rfl
  refine run ?_;refine J.ifd rfl (fun c6=>?_) (fun c6=>?_)
  · refine run ?_
    exact J.fin rfl
  have hZ:=hq4 c2;have Y:=Z.gr hZ;have O:GRow opC 11 S2 w la n zs:=Y.ops;have I0:Inns opI S2 w zs:=Y.inn;have hok:∀z∈zs,z.o.ok:=Y.ok;have hzl:=O.len;obtain⟨ops,hops⟩:=ex (zs.map OpA.o);have hol:ops.length=n:=by rw[hops,List.length_map,hzl]
  have ook:∀o∈ops,o.ok:=fun o ho=>by
    rw[hops]at ho;obtain⟨z,hz,rfl⟩:=List.mem_map.1 ho;exact hok z hz
  have Pok:=lst_ok ook;have Psz:=lst_size ops;obtain⟨P,hP⟩:=ex (S.lstP ops);refine run ?_;refine J.callp rfl rfl (fun w' M=>topAlive TK w' (K0.ext M.ext)) ?_;refine run ?_;refine J.call rfl rfl (fun w' M=>dagOf la n lc zs TK w' (K0.ext M.ext) (O.ext M.ext) (I0.ext M.ext) hok (by omega)) fun g hg=>?_
  dsimp only[grE,List.cons_append,List.nil_append];rw[←hops,←hP]at hg;rw[←hops];rw[←hP]at Pok Psz;have hgk:=hg.ok Pok;have hgm:=hg.sz Psz;have hgP:=GrP.P (P:=P) hg;refine run ?_;refine J.alloc rfl fun b9=>?_
  refine run ?_;refine J.ifn rfl (fun d1=>?_) (fun d1=>?_)
  · have h1:g.m=0:=by rw[hg.m,hP,S.lstP_no d1];rfl
    obtain⟨ia,oa,gm,gn,ic,oc,ids,gzs⟩:=g;dsimp only at h1;subst h1;refine run ?_;exact J.fin rfl
  obtain⟨F,y2,y3,y4⟩:=S.lst_list d1;rw[←hP]at F y2 y3 y4;have hmn:g.m=n:=(hg.m.trans y2).trans hol;have hf0:S.chkG g.m g.ids g.ops=0:=by rw[hg.m,hg.ids,hg.ops];exact(S.chk_fine F.good.1).2 F
  refine run ?_;refine J.call rfl rfl (fun w' M=>ancOrder g TK w' (K0.ext M.ext) (GrR.own hgk hg.cap hgm w' M) hf0) fun q hq=>?_
  obtain⟨rd,rn,oa,oc⟩:=q;obtain⟨OX,hrl⟩:=hq;dsimp only at OX hrl⊢;refine run ?_;refine J.spn rfl rfl rfl (fun c=>by omega) (fun _=>?_);refine run ?_;refine J.ifn rfl (fun c=>by omega) (fun _=>?_);refine run ?_;refine J.call rfl rfl (fun w' M=>(RW.own' (a:=oa) w' M).elim fun _ k0=>topOrdered g oa oc rd m1 TK w' (K0.ext M.ext) (GrR.own hgk hg.cap hgm w' M) hf0 k0 OX hrl ⟨by omega,by omega⟩ (by omega)) fun s1 hs1=>?_
  obtain⟨v1,A1,hk1,hz1⟩:=hs1;have A1':S.AtX g.P rd rd.length v1:=by rw[hrl];exact A1
  have hall1:=A1'.all (by rw[hgP];exact F) OX (show g.m≤rd.length by omega);refine run ?_;refine J.alloc rfl fun b13=>?_
  refine run ?_;refine J.call rfl rfl (fun w' M=>topRounds g la n lc zs m2 TK w' (K0.ext M.ext) (GrR.own hgk hg.cap hgm w' M) hf0 (O.ext M.ext) (I0.ext M.ext) hok (by omega) hmn ⟨by omega,by omega⟩ hops.symm (fun o ho=>by rw[hgP];exact y3 o ho) (fun i hi=>by have:=y4 i (by rw[←hg.m];exact hi);rwa[←hg.ops]at this)) fun s2 hs2=>?_
  obtain⟨v2,hk2,hz2,R2,hall2⟩:=hs2;refine run ?_;refine J.alloc rfl fun b15=>?_
  refine run ?_;refine J.call rfl rfl (fun w' M=>stGraph s1 TK w' (K0.ext M.ext) (hk1.own hz1 w' M)) fun g1 hg1=>?_
  rw[hk1.V,S.grT_0 A1.ok,hall1,hgP]at hg1;rw[hk1.V,S.chkT_0 A1.ok];dsimp only[grE,List.cons_append,List.nil_append];refine run ?_;refine J.alloc rfl fun b16=>?_
  refine run ?_;refine J.call rfl rfl (fun w' M=>stGraph s2 TK w' (K0.ext M.ext) (hk2.own hz2 w' M)) fun g2 hg2=>?_
  rw[hk2.V,S.grT_0 R2.ok,hall2,hgP]at hg2;rw[hk2.V,S.chkT_0 R2.ok];dsimp only[grE,List.cons_append,List.nil_append];have hg1k:=hg1.ok Pok;have hg1m:=hg1.sz Psz;have hg2k:=hg2.ok Pok;have hg2m:=hg2.sz Psz;refine run ?_;refine J.alloc rfl fun b18=>?_
  refine run ?_;refine J.callp rfl rfl (fun w' M=>refGSame g1 g w' (GrR.own hg1k hg1.cap hg1m w' M) (GrR.own hgk hg.cap hgm w' M)) ?_;rw[show decide (g1.ids=g.ids∧g1.ops=g.ops)=true from decide_eq_true ⟨hg1.ids.trans hg.ids.symm,hg1.ops.trans hg.ops.symm⟩];refine run ?_;refine J.callp rfl rfl (fun w' M=>refGSame g2 g w' (GrR.own hg2k hg2.cap hg2m w' M) (GrR.own hgk hg.cap hgm w' M)) ?_;rw[show decide (g2.ids=g.ids∧g2.ops=g.ops)=true from decide_eq_true ⟨hg2.ids.trans hg.ids.symm,hg2.ops.trans hg.ops.symm⟩];refine run ?_;refine J.callp rfl rfl (fun w' M=>topHeads g s1 s2 TK w' (K0.ext M.ext) (GrR.own hgk hg.cap hgm w' M) hf0 (hk1.own hz1 w' M) (hk2.own hz2 w' M) ⟨by rw[hk1.V];exact A1.ok,by rw[hk1.V];exact hall1⟩ ⟨by rw[hk2.V];exact R2.ok,by rw[hk2.V];exact hall2⟩) ?_;refine run ?_;refine J.callp rfl rfl (fun w' M=>topBelow g s1 v1 rd k TK w' (K0.ext M.ext) (GrR.own hgk hg.cap hgm w' M) hf0 (hk1.own hz1 w' M) hk1.V A1 OX hrl (by omega)) ?_;refine run ?_;exact J.fin rfl
end W
end Go.Proofs.YtjjbdaiioociaaaGreatDoor
