/-
  Part 14 of the lemmas of these laws: PoolJudges.
-/
import Derived.Test.YtfoaecjggdaieaaGreatDoorPPj13
set_option linter.unusedVariables false
set_option linter.unusedSimpArgs false
open Go.Proofs.Tryz
namespace Go.Proofs.YtfoaecjggdaieaaGreatDoor
namespace W
open Go.RowKit G
set_option maxRecDepth 20000
set_option maxHeartbeats 8000000
attribute [local irreducible] RS RX RY Code.wp bodyPost J Ent.blk Ent.irow Ent.iown Ent.wrow Ent.wown Ent.grow Ent.gown Ent.all Ent.emp
instance:Ents prog 24:=⟨.mk func24 (by kernel_rfl) rfl⟩
theorem judgeV{S0:Nat→Prop}(a:Option Addr)(n c:Nat)(bs:List Int)(TK:TypeId)(w:World)(K0:Kst w TK)(R0:IRow .u8 S0 w a n bs)(hc:n≤c)(hn:n≤1000):
  Calls prog 24 #[.slice a n c] w (Gv w (fun q:Option Addr×Nat=> .tuple #[.agg (opC ⟨S.jdO bs,q.1,q.2⟩).toArray, .agg (ints .u8 (S.jdI bs)).toArray, .int .u8 (S.jdV bs)]) (fun q=>[.wrow .u8 32 q.1 (S.jdO bs).n (S.jdO bs).ids]) fun q=>(S.jdO bs).n≤q.2):=
 Gv.of (judgeOf a n c bs TK w K0 R0 hc (by omega)) fun v w' _ ⟨a',c',hv,hcc,W⟩=>⟨(a',c'),hv,hcc,sep1 (wrow_i W)⟩
theorem hd_own{Z:Nat→Prop}{w0:World}{L:List Ent}{hs:List HdA}{F:Ent→List Ent}[R:RE L (.all (hs.map hdE)) F](hk:∀h∈hs,HdK h){i:Nat}{z:HdA}(hz:hs[i]? =some z)(w:World)(M:Mem Z w0 L w):∃S,HdR S w z:=by
 obtain⟨A,_,e⟩:=M.get (R.h (.all (hs.map hdE))).same;obtain⟨S',_,k⟩:=sep_mem (List.mem_map.2 ⟨z,List.mem_of_getElem? hz,rfl⟩) (all_e e);exact⟨S',hdR_e (hk z (List.mem_of_getElem? hz)) k⟩
theorem PlQ.judge{v:S.PlV}{cap:Int}{ja ha da:Option Addr}{jn jc hn hc dn dc k:Nat}{js:List JbA}{hs:List HdA}{ds:List JdA}{h0:HdA}{j:JdA}(h:PlQ v ⟨cap,ja,jn,jc,js,ha,hn,hc,hs,da,dn,dc,ds⟩)(hz:hs[k]? =some h0)(h1:(S.stgP v k).s=1)(hj:j.V=S.ofJ h0.jt h0.bs)(hk:JdK j):
  PlQ (S.didP v k) ⟨cap,ja,jn,jc,js,ha,hn,hc,hs.set k ⟨2,0,none,0,0,[],j⟩,da,dn,dc,ds⟩:=by
 obtain⟨⟨hV,hjj,hh,hd,hn'⟩,hc0,l1,l2,l3⟩:=h;dsimp only at hjj hh hd hn' hc0 l1 l2 l3;have ez:=PlA.hAt (p:=⟨cap,ja,jn,jc,js,ha,hn,hc,hs,da,dn,dc,ds⟩) hz;rw[hV]at ez;have ez:S.stgP v k=h0.V:=ez;refine⟨⟨?_,hjj,fun x hx=>?_,hd,hn'⟩,hc0,l1,by dsimp only;rw[List.length_set,l2],l3⟩
 ·unfold S.didP;rw[if_neg (by omega),if_pos h1,ez];subst hV;unfold PlA.V;dsimp only;rw[List.map_set];unfold HdA.V;dsimp only;rw[hj]
 rcases List.mem_or_eq_of_mem_set hx with k|rfl
 ·exact hh x k
 exact⟨hk,Nat.le_refl _,Nat.zero_le _⟩
theorem spl_id(t v:Int)(o:OpA)(id:List Int)(h:id.length=32){x:List Int}(hx:x.length=32):splice (jdC ⟨t,v,o,id,h⟩) 13 (ints .u8 x)=jdC ⟨t,v,o,x,hx⟩:=by
 rw[splice_mid _ _ _ (by rw[jdC_len',ints_length,hx];decide),List.drop_of_length_le (by rw[jdC_len',ints_length,hx];decide),List.append_nil];rfl
theorem fillO_h2{x:Value}{vs:List Value}(h:vs.length=45):fillO [(0,1),(1,2),(3,45)] 48 [(0,[x]),(2,vs)]=true:=by
 simp[fillO,h]
theorem jdO_k{b:List Int}(hB:Bd .u8 b){t:Int}{pa:Option Addr}{pc:Nat}(hc:(S.jdO b).n≤pc):JdK ⟨t,S.jdV b,⟨S.jdO b,pa,pc⟩,S.jdI b,(S.jdI_arr b).1⟩:=⟨(S.jdO_ok hB).1,hc,S.jdI_arr b⟩
@[reducible] def hdJ(j:JdA):HdA:=⟨2,0,none,0,0,[],j⟩
theorem wkJudge{Z:Nat→Prop}{v:S.PlV}(p:PlA)(bw bp bh:Nat)(fv:Value)(i:Int)(TK:TypeId)(w:World)(K0:Kst w TK)(hg:¬Z gK)(hS:Sep (wkE bw bp bh i fv p) Z w)(hq:PlQ v p)(ha:p.ha=some ⟨bh,0,none⟩)(hi:0≤i∧i<p.hn)(hz:(S.stgP v i.toNat).s=1):
  Calls prog 57 #[.pointer (some ⟨bw,0,none⟩)] w (Gm w Z (fun q:PlA×Bool=> .bool q.2) (fun q=>wkE bw bp bh i fv q.1) (WkP v i)):=by
 obtain⟨cap,ja,jn,jc,js,ha2,hn,hc,hs,da,dn,dc,ds⟩:=p;dsimp only[wkE,plF]at hS ha hi⊢;subst ha;have hhl:=hq.l.2.1;have hkk:=hq.k.h;dsimp only at hhl hkk;obtain⟨h0,hh0⟩:∃z,hs[i.toNat]? =some z:=⟨_,List.getElem?_eq_getElem (by omega)⟩
 have hst:=hq.stg hh0;have hk0:=hkk h0 (List.mem_of_getElem? hh0);have hb6:=hk0.n;have hjI:=S.jdI_arr h0.bs;refine J.enterM 42 hS func57 rfl rfl ?_;refine J.fact (p:=Bd .u8 h0.bs) (.all (hs.map hdE)) (fun _ _ h=>let ⟨_,_,k⟩:=sep_mem (List.mem_map.2 ⟨h0,List.mem_of_getElem? hh0,rfl⟩) (all_e h);(hdR_e hk0 k).row.bd) fun hbd=>?_
 refine run ?_;refine J.ldGf (a:=some ⟨bh,0,none⟩) (i:=i) (off:=2) rfl RG.own' ?_;refine run ?_;refine J.call rfl rfl (fun w' M=>(hd_own hkk hh0 w' M).elim fun _ k0=>judgeV h0.ba h0.bn h0.bc h0.bs TK w' (K0.pr M.pr hg) k0.row hk0.cap (by omega)) fun q hq1=>?_
 refine run ?_;refine J.alloc rfl fun b3=>?_
 refine J.alloc rfl fun b4=>?_
 refine run ?_;refine J.ldGf (a:=some ⟨bh,0,none⟩) (i:=i) (off:=1) rfl RG.own' ?_;refine run ?_;refine J.alloc rfl fun b6=>?_
 refine run ?_;refine J.ife rfl (fun c1=>?_) (fun c1=>?_)
 ·refine J.regionR [.blk b4 (ints .u8 (S.jdI h0.bs)) 59, .blk b3 (opC ⟨S.jdO h0.bs,q.1,q.2⟩) 57] [(0, .q),(1, .q),(2, .q),(3, .e),(4, .q),(5, .e)] mixed (by kernel_rfl) (by repeat(first|exact List.Sublist.refl _|refine List.Sublist.cons_cons _ ?_|refine List.Sublist.cons _ ?_)) ?_;refine run ?_;refine J.sta rfl rfl ?_ (hn:=by rw[ints_length,hjI.1]) (hv:=ints_cellB _ _) (ho:=by rfl) (hc:=spl_id h0.jt (S.jdV h0.bs) ⟨S.jdO h0.bs,q.1,q.2⟩ (List.replicate 32 0) rfl hjI.1);refine run ?_;obtain⟨jj,ejj⟩:=ex (⟨h0.jt,S.jdV h0.bs,⟨S.jdO h0.bs,q.1,q.2⟩,S.jdI h0.bs,hjI.1⟩:JdA);rw[←ejj];have hVj:jj.V=S.ofJ h0.jt h0.bs:=by rw[ejj];rfl
  have hKj:JdK jj:=by rw[ejj];exact jdO_k hbd hq1
  refine J.re (.wrow .u8 32 q.1 (S.jdO h0.bs).n (S.jdO h0.bs).ids) (jdE jj) (fun _ _ h=>by rw[ejj];exact h) ?_;refine run ?_;refine J.regionX [(0, .q),(1, .q),(2, .q),(3, .q),(4, .q),(5, .q),(6, .q),(7, .g)] mixed (by kernel_rfl) ?_;refine run ?_;refine J.bd rfl ?_ (ho:=by exact fillO_h2 (jdC_len' jj)) (hf:=by exact spl_hd (h:=hdJ jj) rfl rfl);refine run ?_;refine J.stG (f:=hdC) (a:=some ⟨bh,0,none⟩) (i:=i) (q:=hdJ jj) rfl rfl rfl ?_ (hv:=hdC_cells (hdJ jj));refine run ?_;refine J.openA (hs.map hdE) i.toNat (e:=hdE h0) (by rw[List.getElem?_map,hh0];rfl) ?_;refine J.nilR .u8 ?_;refine J.pair (.irow .u8 none 0 []) (jdE jj) ?_;refine J.re (.all [.irow .u8 none 0 [],jdE jj]) (hdE (hdJ jj)) (fun _ _ h=>h) ?_;refine J.shutA (hs.map hdE) i.toNat (hdE (hdJ jj)) (by rw[List.length_map];omega) ?_;rw[←List.map_set];refine J.front (.all ((hs.set i.toNat (hdJ jj)).map hdE)) ?_;refine J.front (.all (js.map jbE)) ?_;refine J.front (.gown jdC 45 61 da dn dc ds) ?_;refine J.front (.gown hdC 48 67 (some ⟨bh,0,none⟩) hn hc (hs.set i.toNat (hdJ jj))) ?_;refine J.front (.grow jbC 2 ja jn js) ?_;refine J.front (.blk bp [.int .i64 cap, .slice ja jn jc, .slice (some ⟨bh,0,none⟩) hn hc, .slice da dn dc] 26) ?_;refine J.front (.blk bw [.pointer (some ⟨bp,0,none⟩),pt (some ⟨bh,0,none⟩) (i.toNat*48),fv] 112) ?_;exact J.finM ((⟨cap,ja,jn,jc,js,some ⟨bh,0,none⟩,hn,hc,hs.set i.toNat (hdJ jj),da,dn,dc,ds⟩:PlA),true) rfl (WkP.yes (.inr (.inl hz)) (hq.judge hh0 hz hVj hKj)) sb
 obtain⟨jj,ejj⟩:=ex (⟨h0.jt,S.jdV h0.bs,⟨S.OpV.zero,none,0⟩,List.replicate 32 0,rfl⟩:JdA);have hVj:jj.V=S.ofJ h0.jt h0.bs:=by
  rw[ejj];unfold S.ofJ;rw[(S.jd_ne c1).1,(S.jd_ne c1).2]
 have hKj:JdK jj:=by rw[ejj];exact⟨S.OpV.zero_ok,Nat.le_refl _,zero_ids⟩
 change J Z w (Ent.blk b6 (jdC ⟨h0.jt,S.jdV h0.bs,⟨S.OpV.zero,none,0⟩,List.replicate 32 0,rfl⟩) 61::_) _;rw[←ejj];refine J.nilW .u8 32 ?_;refine J.re (.wrow .u8 32 none 0 []) (jdE jj) (fun _ _ h=>by rw[ejj];exact h) ?_;refine run ?_;refine J.regionX [(0, .q),(1, .q),(2, .q),(3, .q),(4, .q),(5, .q),(6, .q),(7, .g)] mixed (by kernel_rfl) ?_;refine run ?_;refine J.bd rfl ?_ (ho:=by exact fillO_h2 (jdC_len' jj)) (hf:=by exact spl_hd (h:=hdJ jj) rfl rfl);refine run ?_;refine J.stG (f:=hdC) (a:=some ⟨bh,0,none⟩) (i:=i) (q:=hdJ jj) rfl rfl rfl ?_ (hv:=hdC_cells (hdJ jj));refine run ?_;refine J.openA (hs.map hdE) i.toNat (e:=hdE h0) (by rw[List.getElem?_map,hh0];rfl) ?_;refine J.nilR .u8 ?_;refine J.pair (.irow .u8 none 0 []) (jdE jj) ?_;refine J.re (.all [.irow .u8 none 0 [],jdE jj]) (hdE (hdJ jj)) (fun _ _ h=>h) ?_;refine J.shutA (hs.map hdE) i.toNat (hdE (hdJ jj)) (by rw[List.length_map];omega) ?_;rw[←List.map_set];refine J.front (.all ((hs.set i.toNat (hdJ jj)).map hdE)) ?_;refine J.front (.all (js.map jbE)) ?_;refine J.front (.gown jdC 45 61 da dn dc ds) ?_;refine J.front (.gown hdC 48 67 (some ⟨bh,0,none⟩) hn hc (hs.set i.toNat (hdJ jj))) ?_;refine J.front (.grow jbC 2 ja jn js) ?_;refine J.front (.blk bp [.int .i64 cap, .slice ja jn jc, .slice (some ⟨bh,0,none⟩) hn hc, .slice da dn dc] 26) ?_;refine J.front (.blk bw [.pointer (some ⟨bp,0,none⟩),pt (some ⟨bh,0,none⟩) (i.toNat*48),fv] 112) ?_;exact J.finM ((⟨cap,ja,jn,jc,js,some ⟨bh,0,none⟩,hn,hc,hs.set i.toNat (hdJ jj),da,dn,dc,ds⟩:PlA),true) rfl (WkP.yes (.inr (.inl hz)) (hq.judge hh0 hz hVj hKj)) sb
instance:Ents prog 79:=⟨.mk func79 (by kernel_rfl) rfl⟩
theorem PlQ.put{v:S.PlV}{cap:Int}{ja ha da da':Option Addr}{jn jc hn hc dn dc dc' k n':Nat}{js:List JbA}{hs:List HdA}{ds:List JdA}{h0:HdA}(h:PlQ v ⟨cap,ja,jn,jc,js,ha,hn,hc,hs,da,dn,dc,ds⟩)(hz:hs[k]? =some h0)(h2:(S.stgP v k).s=2)(hd:dn<60)(en:n'=dn+1):
  PlQ (S.didP v k) ⟨cap,ja,jn,jc,js,ha,hn,hc,hs.set k HdA.zero,da',n',dc',ds.take (S.spT v h0.j.t)++h0.j::ds.drop (S.spT v h0.j.t)⟩:=by
 obtain⟨⟨hV,hjj,hh,hdd,hn'⟩,hc0,l1,l2,l3⟩:=h;dsimp only at hjj hh hdd hn' hc0 l1 l2 l3;have ez:=PlA.hAt (p:=⟨cap,ja,jn,jc,js,ha,hn,hc,hs,da,dn,dc,ds⟩) hz;rw[hV]at ez;have ez:S.stgP v k=h0.V:=ez;have hle:S.spT v h0.j.t≤ds.length:=by
  have:=S.spT_le v h0.j.t;have e:v.ds.length=ds.length:=by rw[←hV];exact List.length_map _
  omega
 have eV:S.didP v k=⟨v.cap,v.js,v.hs.set k S.HdV.zero,S.insL v.ds (S.spT v h0.j.t) h0.j.V⟩:=by
  unfold S.didP;rw[if_neg (by omega),if_neg (by omega),ez]
 rw[eV];generalize S.spT v h0.j.t=q at hle;refine⟨⟨?_,hjj,fun x hx=>?_,fun x hx=>?_,by dsimp only;omega⟩,hc0,l1,by dsimp only;rw[List.length_set,l2],by dsimp only;simp;omega⟩
 ·subst hV;unfold PlA.V S.insL;dsimp only;rw[List.map_set,List.map_append,List.map_cons,List.map_take,List.map_drop];rfl
 ·rcases List.mem_or_eq_of_mem_set hx with k|rfl
  ·exact hh x k
  exact HdK.zero
 rcases List.mem_append.1 hx with k|k
 ·exact hdd x (List.mem_of_mem_take k)
 rcases List.mem_cons.1 k with rfl|k
 ·exact(hh h0 (List.mem_of_getElem? hz)).j
 exact hdd x (List.mem_of_mem_drop k)
theorem hd_j(h:HdA):((hdC h).drop 3).take 45=jdC h.j:=List.take_of_length_le (by show(jdC h.j).length≤45;rw[jdC_len'];exact Nat.le_refl _)
theorem wkPut{Z:Nat→Prop}{v:S.PlV}(p:PlA)(bw bp bh:Nat)(fv:Value)(i:Int)(w:World)(hS:Sep (wkE bw bp bh i fv p) Z w)(hq:PlQ v p)(hvl:S.Vld v)(ha:p.ha=some ⟨bh,0,none⟩)(hi:0≤i∧i<p.hn)(hz:(S.stgP v i.toNat).s=2):
  Calls prog 58 #[.pointer (some ⟨bw,0,none⟩)] w (Gm w Z (fun q:PlA×Bool=> .bool q.2) (fun q=>wkE bw bp bh i fv q.1) (WkP v i)):=by
 obtain⟨cap,ja,jn,jc,js,ha2,hn,hc,hs,da,dn,dc,ds⟩:=p;dsimp only[wkE,plF]at hS ha hi⊢;subst ha;have hhl:=hq.l.2.1;have hdl:=hq.l.2.2;have hkk:=hq.k.h;have hV:=hq.k.V;have hn2:=hq.k.n;dsimp only at hhl hdl hkk hn2;obtain⟨h0,hh0⟩:∃z,hs[i.toNat]? =some z:=⟨_,List.getElem?_eq_getElem (by omega)⟩
 have hst:=hq.stg hh0;have hdv:v.ds.length=dn:=by rw[←hV];exact(List.length_map _).trans hdl
 have hd60:v.ds.length≤60:=hvl.c.2.2.2.2.2;have hjl:=jdC_len' h0.j;refine J.enterM 57 hS func58 rfl rfl ?_;refine run ?_;refine J.ife rfl (fun c1=>?_) (fun c1=>?_)
 ·refine run ?_;exact J.finM ((⟨cap,ja,jn,jc,js,some ⟨bh,0,none⟩,hn,hc,hs,da,dn,dc,ds⟩:PlA),false) rfl (WkP.no hq fun h=>by unfold S.canP at h;omega) sb
 refine run ?_;refine J.ldGa (a:=some ⟨bh,0,none⟩) (i:=i) (sz:=48) (off:=3) rfl RG.own' ?_ (q:=h0) (hf:=by exact hd_j h0) (hn:=by exact hjl);refine run ?_;refine J.alloc rfl fun b3=>?_
 refine run ?_;refine J.regionX [(0, .q),(1, .q),(2, .q),(3, .q),(4, .q),(5, .q),(6, .q),(7, .q),(8, .q),(9, .e),(10, .q),(11, .q),(12, .q),(13, .q),(14, .q)] mixed (by kernel_rfl) ?_;refine run ?_
 refine J.callp rfl rfl (fun w' M => (RG.own' (a := da) w' M).elim fun _ k0 => by
  have := bsJd ⟨cap, ja, jn, jc, js, some ⟨bh, 0, none⟩, hn, hc, hs, da, dn, dc, ds⟩ h0.j.t w' k0 (hV.symm ▸ hvl.c2) (by dsimp only; omega)
  rwa [hV] at this) ?_
 obtain⟨sp,hsp⟩:=ex (S.spT v h0.j.t);have hsl:sp≤dn:=by rw[hsp,←hdv];exact S.spT_le v h0.j.t
 rw[←hsp];refine run ?_;have hzl:(ds.take sp++h0.j::ds.drop sp).length=dn+1:=by simp;omega
 refine J.regionR [.blk b3 (jdC h0.j) 61, .blk bw [.pointer (some ⟨bp,0,none⟩),pt (some ⟨bh,0,none⟩) (i.toNat*48),fv] 112, .blk bp (plC ⟨cap,ja,jn,jc,js,some ⟨bh,0,none⟩,hn,hc,hs,da,dn,dc,ds⟩) 26] [(0, .q),(1, .q),(2, .q),(3, .q),(4, .q),(5, .q),(6, .q),(7, .q),(8, .q),(9, .q),(10, .q),(11, .q),(12, .q),(13, .e),(14, .e),(15, .q),(16, .q),(17, .g)] mixed (by kernel_rfl) (by repeat(first|exact List.Sublist.refl _|refine List.Sublist.cons_cons _ ?_|refine List.Sublist.cons _ ?_)) ?_;refine run ?_;refine J.b1G jdC h0.j jdC_len' rfl rfl rfl fun bx=>?_
 refine run ?_
 refine J.callG rfl (fun w' M hO' => insJd da dn dc ds sp h0.j bx w' hO' (by omega) (by omega) (let ⟨_, _, k⟩ := M.get (GO.h (a := some ⟨bx, 0, none⟩) (some ⟨bx, 0, none⟩) 1 1 [h0.j]).same; gown_one (gown_e k).1) (fun he => by
  obtain ⟨S1, S2, h1, h2, h3⟩ := M.two (.gown jdC 45 61 da dn dc ds) (.gown jdC 45 61 (some ⟨bx, 0, none⟩) 1 1 [h0.j])
  exact h1 bx ((gown_e h2).2 _ he) ((gown_e h3).2 _ rfl))) fun a' c' => ?_
 rw[hzl];refine J.nc rfl rfl ?_;refine J.fl rfl rfl ?_;refine J.last ?_;refine run ?_;refine J.stG (f:=hdC) (a:=some ⟨bh,0,none⟩) (i:=i) (q:=HdA.zero) rfl rfl rfl ?_ (hv:=hdC_cells HdA.zero);refine run ?_;refine J.openA (hs.map hdE) i.toNat (e:=hdE h0) (by rw[List.getElem?_map,hh0];rfl) ?_;refine J.re (hdE h0) (.all [.irow .u8 h0.ba h0.bn h0.bs,jdE h0.j]) (fun _ _ h=>h) ?_;refine J.openA [.irow .u8 h0.ba h0.bn h0.bs,jdE h0.j] 1 rfl ?_;dsimp only[List.eraseIdx];refine J.re (.all (ds.map jdE)) (.all (((ds.take sp++h0.j::ds.drop sp).map jdE).eraseIdx sp)) (fun _ _ h=>by rw[mid_erase _ _ _ (by omega)];exact h) ?_;refine J.shutA ((ds.take sp++h0.j::ds.drop sp).map jdE) sp (jdE h0.j) (by rw[List.length_map];omega) ?_;refine J.re (.all (((ds.take sp++h0.j::ds.drop sp).map jdE).set sp (jdE h0.j))) (.all ((ds.take sp++h0.j::ds.drop sp).map jdE)) (fun _ _ h=>by rw[mid_set _ _ _ (by omega)]at h;exact h) ?_;refine J.nilR .u8 ?_;refine J.nilW .u8 32 ?_;refine J.pair (.irow .u8 none 0 []) (.wrow .u8 32 none 0 []) ?_;refine J.re (.all [.irow .u8 none 0 [], .wrow .u8 32 none 0 []]) (hdE HdA.zero) (fun _ _ h=>h) ?_;refine J.shutA (hs.map hdE) i.toNat (hdE HdA.zero) (by rw[List.length_map];omega) ?_;rw[←List.map_set];refine J.front (.all ((ds.take sp++h0.j::ds.drop sp).map jdE)) ?_;refine J.front (.all ((hs.set i.toNat HdA.zero).map hdE)) ?_;refine J.front (.all (js.map jbE)) ?_;refine J.front (.gown jdC 45 61 a' (dn+1) c' (ds.take sp++h0.j::ds.drop sp)) ?_;refine J.front (.gown hdC 48 67 (some ⟨bh,0,none⟩) hn hc (hs.set i.toNat HdA.zero)) ?_;refine J.front (.grow jbC 2 ja jn js) ?_;refine J.front (.blk bp [.int .i64 cap, .slice ja jn jc, .slice (some ⟨bh,0,none⟩) hn hc, .slice a' (dn+1) c'] 26) ?_;refine J.front (.blk bw [.pointer (some ⟨bp,0,none⟩),pt (some ⟨bh,0,none⟩) (i.toNat*48),fv] 112) ?_;have hfin:=hq.put (da':=a') (dc':=c') hh0 hz (by omega) (rfl:dn+1=dn+1);rw[←hsp]at hfin
 exact J.finM ((⟨cap,ja,jn,jc,js,some ⟨bh,0,none⟩,hn,hc,hs.set i.toNat HdA.zero,a',dn+1,c',ds.take sp++h0.j::ds.drop sp⟩:PlA),true) rfl (WkP.yes (.inr (.inr ⟨by omega,by omega,by omega⟩)) hfin) sb
instance:SInf prog 112 [(0,1),(1,1),(2,1)]:=⟨_,underlying112,by kernel_rfl,by kernel_rfl⟩
instance:Inf prog 112 3 24 [.pointer none, .pointer none, .nilFunc]:=⟨TI.of (v:= .agg #[.pointer none, .pointer none, .nilFunc]) (by kernel_rfl) rfl⟩
instance:Ents prog 56:=⟨.mk func56 (by kernel_rfl) rfl⟩
instance:Fld prog 112 2 2:=⟨_,_,1,underlying112,rfl,by kernel_rfl,by decide,rfl⟩
instance:Siz prog 42 1:=⟨by kernel_rfl⟩
instance:Ents prog 57:=⟨.mk func57 (by kernel_rfl) rfl⟩
instance:Ents prog 58:=⟨.mk func58 (by kernel_rfl) rfl⟩
instance:Sca prog 42:=⟨_,underlying42,rfl⟩
theorem poolStep{Z:Nat→Prop}{v:S.PlV}(p:PlA)(bp:Nat)(i:Int)(TK:TypeId)(w:World)(K0:Kst w TK)(hg:¬Z gK)(hS:Sep (.blk bp (plC p) 26::plF p) Z w)(hq:PlQ v p)(hvl:S.Vld v)(hi:0≤i∧i<p.hn):
  Calls prog 32 #[.pointer (some ⟨bp,0,none⟩), .int .i64 i] w (Gm w Z (fun q:PlA×Bool=> .bool q.2) (fun q=> .blk bp (plC q.1) 26::plF q.1) (WkP v i)):=by
 obtain⟨cap,ja,jn,jc,js,ha,hn,hc,hs,da,dn,dc,ds⟩:=p;dsimp only[plF]at hS hi⊢;have hhl:=hq.l.2.1;have hV:=hq.k.V;dsimp only at hhl;obtain⟨h0,hh0⟩:∃z,hs[i.toNat]? =some z:=⟨_,List.getElem?_eq_getElem (by omega)⟩
 have hst:=hq.stg hh0;have hvh:v.hs.length=hn:=by rw[←hV];exact(List.length_map _).trans hhl
 have h3:=S.hand_s (hvl.hand (i:=i.toNat) (by omega));have hs0:(S.stgP v i.toNat).s=h0.s:=congrArg S.HdV.s hst;refine J.enterM 44 hS func32 rfl rfl ?_;refine J.fact (p:=∃b,ha=some ⟨b,0,none⟩) (.gown hdC 48 67 ha hn hc hs) (fun _ _ h=>(gown_e h).1.some (by omega)) fun hha=>?_
 obtain⟨bh,rfl⟩:=hha;refine run ?_;refine J.box rfl rfl rfl fun bw=>?_
 refine run ?_;refine J.ldGf (a:=some ⟨bh,0,none⟩) (i:=i) (off:=0) rfl RG.own' ?_;refine run ?_;refine J.ife rfl (fun c1=>?_) (fun c1=>?_)
 ·refine run ?_;refine J.fn rfl rfl rfl ?_;refine run ?_;refine J.callMb (PlA.zero,false) (E:=wkE bw bp bh i (.func (.func 56) #[.pointer (some ⟨bw,0,none⟩)] #[]) ⟨cap,ja,jn,jc,js,some ⟨bh,0,none⟩,hn,hc,hs,da,dn,dc,ds⟩) (R:=[]) rfl rfl rfl (fun w' X M hx hs=>wkTake _ bw bp bh _ i w' hs hq rfl hi (by omega)) fun q hq'=>?_
  refine run ?_;exact J.finM q rfl hq' sb
 refine run ?_;refine J.ife rfl (fun c2=>?_) (fun c2=>?_)
 ·refine run ?_;refine J.fn rfl rfl rfl ?_;refine run ?_;refine J.callMb (PlA.zero,false) (E:=wkE bw bp bh i (.func (.func 57) #[.pointer (some ⟨bw,0,none⟩)] #[]) ⟨cap,ja,jn,jc,js,some ⟨bh,0,none⟩,hn,hc,hs,da,dn,dc,ds⟩) (R:=[]) rfl rfl rfl (fun w' X M hx hs=>wkJudge _ bw bp bh _ i TK w' (K0.pr M.pr hg) (fun h=>(hx _ h).elim hg (fun h=>absurd K0.lt (by omega))) hs hq rfl hi (by omega)) fun q hq'=>?_
  refine run ?_;exact J.finM q rfl hq' sb
 refine run ?_;refine J.fn rfl rfl rfl ?_;refine run ?_;refine J.callMb (PlA.zero,false) (E:=wkE bw bp bh i (.func (.func 58) #[.pointer (some ⟨bw,0,none⟩)] #[]) ⟨cap,ja,jn,jc,js,some ⟨bh,0,none⟩,hn,hc,hs,da,dn,dc,ds⟩) (R:=[]) rfl rfl rfl (fun w' X M hx hs=>wkPut _ bw bp bh _ i w' hs hq hvl rfl hi (by omega)) fun q hq'=>?_
 refine run ?_;exact J.finM q rfl hq' sb
instance:Ents prog 30:=⟨.mk func30 (by kernel_rfl) rfl⟩
instance:Ents prog 54:=⟨.mk func54 (by kernel_rfl) rfl⟩
instance:Ents prog 29:=⟨.mk func29 (by kernel_rfl) rfl⟩
instance:Ents prog 32:=⟨.mk func32 (by kernel_rfl) rfl⟩
instance:Ents prog 12:=⟨.mk func12 (by kernel_rfl) rfl⟩
def outP(n:Nat)(x:Int):Prop:=x<0∨(n:Int)≤x
instance(n:Nat)(x:Int):Decidable (outP n x):=by unfold outP;infer_instance
theorem poolRun1(p:PlA)(x:Int)(b:Nat)(T:TypeId)(w:World)(hB:Blk w b (plC p) T):
  Calls prog 30 #[.int .i64 x, .pointer (some ⟨b,0,none⟩)] w (Ret w fun v _=>v= .bool (decide (outP p.hn x))):=by
 refine J.enter 11 func30 rfl rfl ?_;refine run ?_;refine J.spd rfl rfl rfl (fun c1=>?_) (fun c1=>?_)
 ·refine run ?_;exact J.fin (congrArg _ (decide_eq_true (.inl c1)).symm)
 refine run ?_;refine J.ldO hB (fun h=>h) rfl ?_;refine run ?_;exact J.fin (congrArg _ (decide_eq_decide.2 ⟨fun h=> .inr h,fun h=>h.resolve_left c1⟩))
theorem idxRun1{S0:Nat→Prop}(p:PlA)(b:Nat)(T:TypeId)(a:Option Addr)(n c:Nat)(xs:List Int)(w:World)(hB:Blk w b (plC p) T)(D0:GRow inC 1 S0 w a n xs)(hn:n≤100000):
  Calls prog 54 #[.slice a n c, .func (.func 30) #[] #[.pointer (some ⟨b,0,none⟩)]] w (Gv w (fun r:Int=> .int .i64 r) (fun _=>[]) fun r=>0≤r↔∃x∈xs,outP p.hn x):=by
 have hl:=D0.len;refine J.enter 17 func54 rfl rfl ?_;refine run ?_;refine J.loopS (A:=Int) (fun p=>[(8, .int .i64 p)]) [4,5,9,10,11,12,13,14,15,16,17,18] (fun q=>(0≤q∧q≤n)∧∀x∈xs.take q.toNat,¬outP p.hn x) (fun q=>n - q.toNat) 0 (by kernel_rfl) ⟨by omega,fun i hi=>by simp at hi⟩ (fun q j hI=>?_);obtain⟨h1,hI⟩:=hI;refine run ?_;refine J.ifd rfl (fun c1=>?_) (fun c1=>?_)
 ·obtain⟨y,hy⟩:=D0.ex (i:=q) (by omega);refine run ?_;refine J.callvp rfl rfl rfl (fun w' M=>poolRun1 p y b T w' (hB.ext M.ext)) ?_;refine run ?_;refine J.ifd rfl (fun c2=>?_) (fun c2=>?_)
  ·refine run ?_;exact J.finG q rfl ⟨fun _=>⟨y,List.mem_of_getElem? hy,c2⟩,fun _=>by omega⟩ (List.nil_sublist _)
  refine run ?_;refine J.nextS (q+1) ⟨rfl,trivial⟩ (by kernel_rfl) ⟨by omega,fun x hx=>?_⟩ (by omega);rw[show(q+1).toNat=q.toNat+1 by omega,List.take_add_one,hy,Option.toList_some]at hx;rcases List.mem_append.1 hx with e|e
  ·exact hI x e
  rw[List.mem_singleton]at e;rw[e];exact c2
 refine run ?_;refine J.finG (-1) rfl ⟨fun h=>by omega,fun⟨x,hx,h⟩=>absurd h (hI x ?_)⟩ (List.nil_sublist _);rwa[List.take_of_length_le (by omega)]
theorem hasRun1{S0:Nat→Prop}(p:PlA)(b:Nat)(T:TypeId)(a:Option Addr)(n c:Nat)(xs:List Int)(w:World)(hB:Blk w b (plC p) T)(D0:GRow inC 1 S0 w a n xs)(hn:n≤100000):
  Calls prog 29 #[.slice a n c, .func (.func 30) #[] #[.pointer (some ⟨b,0,none⟩)]] w (Ret w fun v _=>v= .bool (decide (∃x∈xs,outP p.hn x))):=by
 refine J.enter 7 func29 rfl rfl ?_;refine run ?_;refine J.call rfl rfl (fun w' M=>idxRun1 p b T a n c xs w' (hB.ext M.ext) (D0.ext M.ext) hn) fun r hr=>?_
 refine run ?_;exact J.fin (congrArg _ (decide_eq_decide.2 hr))
theorem outP_no{v:S.PlV}{n:Nat}{xs:List Int}(h:v.hs.length=n):¬(∃x∈xs,outP n x)↔S.pkP v xs:=by
 unfold S.pkP outP;rw[h];constructor
 ·intro k x hx;exact⟨Classical.byContradiction fun c=>k ⟨x,hx, .inl (by omega)⟩,Classical.byContradiction fun c=>k ⟨x,hx, .inr (by omega)⟩⟩
 rintro k ⟨x,hx,c⟩;have:=k x hx;omega
@[reducible] def rnT(q:PlA×Nat×Int):Value:= .tuple #[.agg (plC q.1).toArray, .int .i64 (q.2.1:Nat), .int .i64 q.2.2]
@[reducible] def rnE(q:PlA×Nat×Int):List Ent:=plF q.1
def RnP(v:S.PlV)(xs:List Int)(q:PlA×Nat×Int):Prop:=PlQ (S.runV v xs) q.1∧q.2.1=S.runM v xs∧q.2.2=S.runE v xs
theorem PlQ.zero:PlQ S.PlV.zero PlA.zero:=⟨PlP.zero,Nat.le_refl _,rfl,rfl,rfl⟩
theorem RnP.no{v:S.PlV}{xs:List Int}{e:Int}(he:S.runE v xs=e)(h:e≠0):RnP v xs (PlA.zero,0,e):=by
 obtain⟨h1,h2⟩:=S.run_no (v:=v) (l:=xs) (by rw[he];exact h);exact⟨by rw[h1];exact PlQ.zero,h2.symm,he.symm⟩
theorem RnP.yes{v:S.PlV}{xs:List Int}{p:PlA}{n:Nat}(he:S.runE v xs=0)(h:PlQ (S.runP v (xs.map Int.toNat)) p)(hn:n=S.runN v (xs.map Int.toNat)):RnP v xs (p,n,0):=by
 obtain⟨h1,h2⟩:=S.run_yes he;exact⟨by rw[h1];exact h,by rw[h2];exact hn,he.symm⟩
theorem J.nilPf{S0:Nat→Prop}{w0:World}{L:List Ent}{X:World→Prop}(k:J S0 w0 (plF PlA.zero++L) X):J S0 w0 L X:=
 J.noA (J.noA (J.noA (J.nilG jdC 45 61 jdC_len' (J.nilG hdC 48 67 hdC_len' (J.add0 (.grow jbC 2 none 0 []) (fun w=>grow_i (GRow.nil jbC_len)) k)))))
structure RnA where
 (i n:Nat)(p:PlA)
theorem poolRun{S0 S1:Nat→Prop}(p:PlA)(a:Option Addr)(m c:Nat)(xs:List Int)(TK:TypeId)(w:World)(K0:Kst w TK)(R:PlR S0 w p)(D0:GRow inC 1 S1 w a m xs)(hm:m≤100000):
  Calls prog 12 #[.agg (plC p).toArray, .slice a m c] w (Gv w rnT rnE (RnP p.V xs)):=by
 have hl:=D0.len;have hhl:=R.hl;refine J.enter 39 func12 rfl rfl ?_;refine run ?_;refine J.box rfl rfl rfl fun b1=>?_
 refine J.alloc rfl fun b2=>?_
 refine run ?_;refine J.callp rfl rfl (fun w' M=>poolCheck p TK w' (K0.ext M.ext) (R.ext M.ext)) ?_;refine run ?_;refine J.ifn rfl (fun c1=>?_) (fun c1=>?_)
 ·have hv:¬S.vldP p.V:=fun h=>c1 (S.vldE_0 h);have he:=S.runE_8 (l:=xs) hv;rw[S.vldE_8 hv];refine run ?_;refine J.nilPf ?_;exact J.finG (PlA.zero,0,8) (by first|done|rfl|(rw[he];rfl)) (RnP.no he (by decide)) sb
 have hv:=S.vldE_ok.1 c1;refine run ?_;refine J.ifd rfl (fun c2=>?_) (fun c2=>?_)
 ·have he:=S.runE_4 (l:=xs) hv (by omega);refine run ?_;refine J.nilPf ?_;exact J.finG (PlA.zero,0,4) (by first|done|rfl|(rw[he];rfl)) (RnP.no he (by decide)) sb
 refine run ?_;refine J.fn rfl rfl rfl ?_;refine J.callp rfl rfl (fun w' M=>hasRun1 p b1 _ a m c xs w' (M.blk (.there .here)) (D0.ext M.ext) hm) ?_;refine run ?_;refine J.ifd rfl (fun c3=>?_) (fun c3=>?_)
 ·have he:=S.runE_2 (l:=xs) hv (by omega) (fun h=>(outP_no hhl).2 h c3);refine run ?_;refine J.nilPf ?_;exact J.finG (PlA.zero,0,2) (by first|done|rfl|(rw[he];rfl)) (RnP.no he (by decide)) sb
 have hpk:=(outP_no hhl).1 c3;have he:=S.runE_0 hv (by omega) hpk;refine run ?_;refine J.call rfl rfl (fun w' M=>poolTwin p w' (R.ext M.ext)) fun q hq=>?_
 refine run ?_;refine J.alloc rfl fun b3=>?_
 refine run ?_;refine J.fact (.gown jbC 2 65 q.ja q.jn q.jc q.js) (fun _ _ h=>(gown_e h).1.len) fun hq1=>?_
 refine J.fact (.gown hdC 48 67 q.ha q.hn q.hc q.hs) (fun _ _ h=>(gown_e h).1.len) fun hq2=>?_
 refine J.fact (.gown jdC 45 61 q.da q.dn q.dc q.ds) (fun _ _ h=>(gown_e h).1.len) fun hq3=>?_
 refine J.fact (.gown jbC 2 65 q.ja q.jn q.jc q.js) (fun _ _ h=>(gown_e h).1.capn) fun hq4=>?_
 have hQ:PlQ p.V q:=⟨hq,hq4,hq1,hq2,hq3⟩
 have hvl:=(S.vld_iff p.V).1 hv;refine J.re (.gown jbC 2 65 q.ja q.jn q.jc q.js) (.grow jbC 2 q.ja q.jn q.js) (fun _ _ h=>gown_grow h) ?_;refine J.drop (E:=[.blk b3 (plC q) 26, .grow jbC 2 q.ja q.jn q.js, .gown hdC 48 67 q.ha q.hn q.hc q.hs, .gown jdC 45 61 q.da q.dn q.dc q.ds, .all (q.js.map jbE), .all (q.hs.map hdE), .all (q.ds.map jdE), .blk b2 [.int .i64 0, .slice none 0 0, .slice none 0 0, .slice none 0 0] 26]) sb ?_;refine J.loop (A:=RnA) (fun r=>[(9, .int .i64 (r.n:Nat)),(30, .int .i64 (r.i:Nat))]) [11,31,32,33,34,35,36,37,38] (fun r=>[.blk b3 (plC r.p) 26, .grow jbC 2 r.p.ja r.p.jn r.p.js, .gown hdC 48 67 r.p.ha r.p.hn r.p.hc r.p.hs, .gown jdC 45 61 r.p.da r.p.dn r.p.dc r.p.ds, .all (r.p.js.map jbE), .all (r.p.hs.map hdE), .all (r.p.ds.map jdE), .blk b2 [.int .i64 0, .slice none 0 0, .slice none 0 0, .slice none 0 0] 26]) (fun r=>r.i≤m∧PlQ (S.runP p.V ((xs.take r.i).map Int.toNat)) r.p∧r.n=S.runN p.V ((xs.take r.i).map Int.toNat)∧r.n≤r.i) (fun r=>m - r.i) ⟨0,0,q⟩ (by kernel_rfl) ⟨Nat.zero_le _,hQ,rfl,Nat.le_refl _⟩ (fun r j hI=>?_);obtain⟨hi,hr,hn,hni⟩:=hI;have hrh:r.p.hn=p.hn:=by
  have e1:=S.run_hs ((xs.take r.i).map Int.toNat) p.V;rw[←hr.k.V]at e1;have e2:r.p.V.hs.length=r.p.hs.length:=List.length_map _;have e3:=hr.l.2.1;omega
 refine run ?_;refine J.ifd rfl (fun d1=>?_) (fun d1=>?_)
 ·obtain⟨x,hx⟩:=D0.ex (i:=(r.i:Nat)) (by omega);have hx':xs[r.i]? =some x:=hx;have hxb:=hpk x (List.mem_of_getElem? hx');have hvr:S.Vld (S.runP p.V ((xs.take r.i).map Int.toNat)):=hvl.run fun k hk=>by
   obtain⟨y,hy,rfl⟩:=List.mem_map.1 hk;have:=hpk y (List.mem_of_mem_take hy);omega
  have et:(xs.take (r.i+1)).map Int.toNat=(xs.take r.i).map Int.toNat++[x.toNat]:=by
   rw[List.take_add_one,hx',Option.toList_some,List.map_append];rfl
  refine run ?_;refine J.callM (PlA.zero,false) (E:= .blk b3 (plC r.p) 26::plF r.p) (R:=[.blk b2 [.int .i64 0, .slice none 0 0, .slice none 0 0, .slice none 0 0] 26]) rfl rfl (fun w' X M hX hs=>poolStep r.p b3 x TK w' (K0.ext M.ext) (fun h=>(hX _ h).elim (fun h=>h) (fun h=>absurd K0.lt (by omega))) hs hr hvr (by omega)) fun s hs=>?_
  obtain⟨sp,sb⟩:=s;obtain⟨hs1,hs2⟩:=hs;dsimp only at hs1 hs2⊢;subst hs2;have e1:S.runP p.V ((xs.take (r.i+1)).map Int.toNat)=S.stepP (S.runP p.V ((xs.take r.i).map Int.toNat)) x.toNat:=by rw[et,S.runP_snoc]
  have e2:S.runN p.V ((xs.take (r.i+1)).map Int.toNat)=r.n+S.stepN (S.runP p.V ((xs.take r.i).map Int.toNat)) x.toNat:=by rw[et,S.runN_snoc,hn]
  refine run ?_;refine J.ifd rfl (fun d2=>?_) (fun d2=>?_)
  ·refine run ?_;refine J.next ⟨r.i+1,r.n+1,sp⟩ ⟨rfl,rfl,trivial⟩ (by kernel_rfl) ⟨by dsimp only;omega,by dsimp only;rw[e1];exact hs1,?_,by dsimp only;omega⟩ (by dsimp only;omega);dsimp only;rw[e2];unfold S.stepN;rw[if_pos d2]
  refine run ?_;refine J.next ⟨r.i+1,r.n,sp⟩ ⟨rfl,rfl,trivial⟩ (by kernel_rfl) ⟨by dsimp only;omega,by dsimp only;rw[e1];exact hs1,?_,by dsimp only;omega⟩ (by dsimp only;omega);dsimp only;rw[e2];unfold S.stepN;rw[if_neg d2];rfl
 rw[List.take_of_length_le (by omega)]at hr hn;refine run ?_;exact J.finG (r.p,r.n,0) rfl (RnP.yes he hr hn) sb
theorem poolStep1{S0:Nat→Prop}(p:PlA)(i:Int)(TK:TypeId)(w:World)(K0:Kst w TK)(R:PlR S0 w p):
  Calls prog 10 #[.agg (plC p).toArray, .int .i64 i] w (Gv w (fun q:PlA×Nat×Int=> .tuple #[.agg (plC q.1).toArray, .bool (decide ((0:Int)<((q.2.1:Nat):Int))), .int .i64 q.2.2]) rnE (RnP p.V [i])):=by
 refine J.enter 20 func10 rfl rfl ?_;refine run ?_;refine J.box rfl rfl rfl fun b1=>?_
 refine J.alloc rfl fun b2=>?_
 refine run ?_;refine J.b1V inC i (fun _=>rfl) rfl rfl rfl rfl fun b4=>?_
 refine run ?_;refine J.call rfl rfl (fun w' M=>(RG.own' (a:=some ⟨b4,0,none⟩) w' M).elim fun _ k0=>poolRun p (some ⟨b4,0,none⟩) 1 1 [i] TK w' (K0.ext M.ext) (R.ext M.ext) k0 (by omega)) fun q hq=>?_
 refine run ?_;refine J.alloc rfl fun b5=>?_
 refine run ?_;exact J.finG q rfl hq sb
instance:Ents prog 23:=⟨.mk func23 (by kernel_rfl) rfl⟩
theorem PlR.ownF{S0:Nat→Prop}{w0:World}{L:List Ent}{p:PlA}{v:S.PlV}{F2:Option Addr→Nat→Nat→List HdA→List Ent}{F3:Option Addr→Nat→Nat→List JdA→List Ent}{F4 F5 F6:Ent→List Ent}
  [R1:RRG L p.ja jbC 2 p.jn p.js][R2:GO L p.ha hdC 48 67 p.hn p.hc p.hs F2][R3:GO L p.da jdC 45 61 p.dn p.dc p.ds F3][R4:RE L (.all (p.js.map jbE)) F4][R5:RE L (.all (p.hs.map hdE)) F5][R6:RE L (.all (p.ds.map jdE)) F6](hp:PlQ v p)(w:World)(M:Mem S0 w0 L w):PlR (fun _=>True) w p:=by
 obtain⟨A,_,a⟩:=M.get R1.h;obtain⟨B,_,b⟩:=M.get (R2.h p.ha p.hn p.hc p.hs).same;obtain⟨C,_,c⟩:=M.get (R3.h p.da p.dn p.dc p.ds).same;obtain⟨D,_,d⟩:=M.get (R4.h (.all (p.js.map jbE))).same;obtain⟨E,_,e⟩:=M.get (R5.h (.all (p.hs.map hdE))).same;obtain⟨F,_,f⟩:=M.get (R6.h (.all (p.ds.map jdE))).same;have a:=grow_e a;have b:=(gown_e b).1;have c:=(gown_e c).1;refine⟨a.weaken fun _ _ _=>trivial,b.row.weaken fun _ _ _=>trivial,c.row.weaken fun _ _ _=>trivial,fun j hj=>?_,fun j hj=>?_,fun j hj=>?_,hp.c,b.capn,c.capn,hp.k.n⟩
 ·obtain⟨S',_,k⟩:=sep_mem (List.mem_map.2 ⟨j,hj,rfl⟩) (all_e d);exact(jbR_e (hp.k.j j hj) k).weak fun _ _=>trivial
 ·obtain⟨S',_,k⟩:=sep_mem (List.mem_map.2 ⟨j,hj,rfl⟩) (all_e e);exact(hdR_e (hp.k.h j hj) k).weak fun _ _=>trivial
 obtain⟨S',_,k⟩:=sep_mem (List.mem_map.2 ⟨j,hj,rfl⟩) (all_e f);exact(jdR_e (hp.k.d j hj) k).weak fun _ _=>trivial
end W
namespace G
open Go.RowKit
section
variable{S0:Nat→Prop}{w0:World}{L:List Ent}{P:Program}{ops:Array Oper}{K:List Value→World→Prop}{rest:List (Oper×Kd)}{l:List Value}{m:Md}{d:Tmp}{ty t e:TypeId}{pos:String}{af:Array Edge}{kd:Kd}{α:Type}
theorem J.bnG{n sz by_:Nat}{parts:Array (Nat×Operand)}{zs vs:List Value}(f:α→List Value)(qs:List α)(hf:∀x,(f x).length=sz)[U:Und P t (.slice e)][I:Inf P e sz by_ zs]{l':Nat→List Value}(hk:okE m kd=true)(hv:(parts.toList.map Prod.snd).map (ev l)=vs)(hc:vs.flatMap (·.cells.toList)=qs.flatMap f)(hcs:∀v∈vs,v.cells.size=sz)
  (kk:∀b,J S0 w0 (.gown f sz e (some ⟨b,0,none⟩) n n qs::L) (RY S0 w0 m P ops K rest (l' b)))(hp:parts.toList=enumV 0 (parts.toList.map Prod.snd):=by rfl)(hl2:vs.length=n:=by rfl)(hq:qs.length=n:=by rfl)(hz:0<sz:=by decide)(hn:Nat.ble n 1000=true:=by rfl)(hz2:Nat.ble sz 1000=true:=by rfl)(h0:Nat.ble 1 n=true:=by rfl)
  (hl:∀b,l.set d (.slice (some ⟨b,0,none⟩) n n)=l' b:=by intro b;dsimp only[List.set]):J S0 w0 L (RY S0 w0 m P ops K ((⟨some d, .buildSlice t n parts,ty,pos,af,none⟩,kd)::rest) l):=
 J.eff hk fun w M K' hK => RS.buildSlice (vs := vs) (cs := qs.flatMap f) U.h I.h hz hn hz2 hp hv hl2 hc hcs h0 fun b w' e1 s1 x1 B => RS.nil (hK _ w' x1 (by
  rw [hl]
  exact kk b w' (M.new x1 (gown_blk (lst := qs) ⟨by subst e1; exact Nat.le_refl _, B⟩ hf rfl hq (by have := Nat.le_of_ble_eq_true hn; omega)))))
theorem run0 {X : World → Prop} {q : Prop} (k : q) (h : Hold q → J S0 w0 L X := by
 intro k
 repeat (first
  | refine J.thn ?_
  | refine J.sq ?_
  | refine J.block ?_
  | refine J.skip ?_
  | refine J.exit ?_
  | refine J.the ?_
  | refine J.ibe ?_
  | refine J.ibn ?_
  | refine J.ibx rfl ?_
  | refine J.ift rfl ?_
  | refine J.iff rfl ?_)
 exact k.out) : J S0 w0 L X := h ⟨k⟩
end
end G
namespace S
open G
theorem Vld.new{n k:Int}(h:newE n k=0):Vld (newV n k):=by
 unfold newV;rw[if_pos h];unfold newE at h;split at h
 ·cases h
 ·have hk:∀x∈List.replicate k.toNat HdV.zero,x=HdV.zero:=fun x hx=>(List.mem_replicate.1 hx).2;have ht:(List.replicate k.toNat HdV.zero).flatMap handL=[]:=List.flatMap_eq_nil_iff.2 fun x hx=>by rw[hk x hx];rfl
  have et:PlV.tk ⟨n,[],List.replicate k.toNat HdV.zero,[]⟩=[]:=by unfold PlV.tk;rw[ht];rfl
  refine⟨⟨by show 1≤n;omega,by show n≤8;omega,by show((0:Nat):Int)≤n;omega,?_,?_,Nat.zero_le _⟩,fun _ h=>(by cases h), .nil,fun x hx=>?_,fun _ h=>(by cases h), .nil,by rw[et];exact .nil,fun x hx=>by rw[et]at hx;cases hx⟩
  ·show 1≤(List.replicate _ _).length;rw[List.length_replicate];omega
  ·show(List.replicate _ _).length≤3;rw[List.length_replicate];omega
  ·rw[hk x hx];exact .inl ⟨rfl,⟨rfl,rfl⟩,judZ_zero⟩
theorem putE_in{v:PlV}{t:Int}(h:putE v t=0):vldP v∧TickP t∧¬overT v t∧¬(v.js.length:Int)=v.cap:=by
 unfold putE at h;split at h
 ·cases h
 ·split at h
  ·cases h
  ·split at h
   ·cases h
   ·split at h
    ·cases h
    ·exact⟨Classical.byContradiction fun k=>by contradiction,Classical.byContradiction fun k=>by contradiction,by assumption,by assumption⟩
theorem Vld.add{v:PlV}{t:Int}{b:List Int}(h:putE v t=0):Vld (addJ v t b):=by
 obtain⟨hv,h1,h2,h3⟩:=putE_in h;have hv:=(vld_iff v).1 hv;have hlt:∀x∈v.tk++v.jT,x<t:=fun x hx=>Classical.byContradiction fun k=>h2 ⟨x,hx,by omega⟩;have ej:PlV.jT (addJ v t b)=v.jT++[t]:=by unfold PlV.jT addJ;rw[List.map_append];rfl
 refine⟨?_,hv.d,hv.ds,hv.h,fun x hx=>?_,?_,hv.nd,fun x hx y hy=>?_⟩
 ·obtain⟨c1,c2,c3,c4⟩:=hv.c;refine⟨c1,c2,?_,c4⟩;show(((v.js++[(⟨t,b⟩:JbV)]).length:Nat):Int)≤v.cap;rw[List.length_append,List.length_singleton];omega
 ·rcases List.mem_append.1 hx with k|k
  ·exact hv.j x k
  ·rw[List.mem_singleton]at k;rw[k];exact h1
 ·rw[ej,List.pairwise_append];refine⟨hv.js,List.pairwise_singleton _ _,fun a ha y hy=>?_⟩;rw[List.mem_singleton]at hy;rw[hy];exact hlt a (List.mem_append_right _ ha)
 ·rw[ej]at hy;rcases List.mem_append.1 hy with k|k
  ·exact hv.lt x hx y k
  ·rw[List.mem_singleton]at k;rw[k];exact hlt x (List.mem_append_left _ hx)
def fndH(h:HdV):List JdV:=if h.s=1 then [ofJ h.jt h.b]else if h.s=2 then [h.j]else []
def jobJ(j:JbV):JdV:=ofJ j.t j.b
def allF(v:PlV):List JdV:=v.ds++(v.hs.flatMap fndH++v.js.map jobJ)
def wgtH(h:HdV):Nat:=if h.s=1 then 2 else if h.s=2 then 1 else 0
def wgtP(v:PlV):Nat:=3*v.js.length+(v.hs.map wgtH).sum
theorem fnd_len(h:HdV):(fndH h).length=(handL h).length:=by
 unfold fndH handL;split
 ·rfl
 ·split<;>rfl
theorem allF_len(v:PlV):(allF v).length=v.js.length+v.tk.length:=by
 unfold allF PlV.tk;rw[List.length_append,List.length_append,List.length_append,List.length_map,List.length_map];have:∀l:List HdV,(l.flatMap fndH).length=(l.flatMap handL).length:=by
  intro l
  induction l with
  |nil=>rfl
  |cons x l ih=>rw[List.flatMap_cons,List.flatMap_cons,List.length_append,List.length_append,ih,fnd_len]
 rw[this];omega
theorem ds_le(v:PlV):v.ds.length≤(allF v).length:=by unfold allF;rw[List.length_append];omega
theorem did_kept{v:PlV}{i:Nat}(h:Vld v)(hi:i<v.hs.length)(hc:canP v i):List.Perm (allF (didP v i)) (allF v)∧wgtP (didP v i)+1=wgtP v:=by
 have hp:=h.hand hi;obtain⟨A,B,e,hl,hs⟩:=spl_at HdV.zero hi;obtain⟨cap,js,H,ds⟩:=v;unfold didP;have e':H=A++stgP ⟨cap,js,H,ds⟩ i::B:=e;have sum_mid:∀x:HdV,((A++x::B).map wgtH).sum=wgtH x+((A.map wgtH).sum+(B.map wgtH).sum):=fun x=>by
  rw[List.map_append,List.map_cons,List.sum_append,List.sum_cons];omega
 have fm:∀x:HdV,(A++x::B).flatMap fndH=A.flatMap fndH++(fndH x++B.flatMap fndH):=fun x=>by rw[List.flatMap_append,List.flatMap_cons]
 generalize hg:stgP ⟨cap,js,H,ds⟩ i=g at hp hc e';rcases hc with⟨c0,c1⟩|c1|⟨c0,c1,c2⟩
 ·rw[hg]at c0;have w0:wgtH g=0:=by unfold wgtH;rw[if_neg (by omega),if_neg (by omega)]
  have f0:fndH g=[]:=by unfold fndH;rw[if_neg (by omega),if_neg (by omega)]
  rw[if_pos c0];cases js with
  |nil=>exact absurd c1 (by simp)
  |cons j js=>
   unfold allF wgtP;dsimp only at hs⊢;rw[hs,e',sum_mid,sum_mid,fm,fm,w0,f0];refine⟨?_,?_⟩
   ·refine List.Perm.append_left _ ?_;show List.Perm ((A.flatMap fndH++(jobJ j::B.flatMap fndH))++js.map jobJ) ((A.flatMap fndH++B.flatMap fndH)++jobJ j::js.map jobJ);refine(List.Perm.append_right _ List.perm_middle).trans ?_;exact List.perm_middle.symm
   ·show 3*(List.drop 1 (j::js)).length+(2+_)+1=3*(j::js).length+_;rw[List.drop_succ_cons,List.drop_zero,List.length_cons];omega
 ·rw[hg]at c1;have w0:wgtH g=2:=by unfold wgtH;rw[if_pos c1]
  have f0:fndH g=[ofJ g.jt g.b]:=by unfold fndH;rw[if_pos c1]
  rw[if_neg (by omega),if_pos c1];unfold allF wgtP;dsimp only at hs⊢;rw[hs,e',sum_mid,sum_mid,fm,fm,w0,f0];refine⟨.refl _,?_⟩;show 3*js.length+(1+_)+1=_;omega
 ·rw[hg]at c0 c1;have c3:g.s=2:=by have:=hand_s hp;omega
  have w0:wgtH g=1:=by unfold wgtH;rw[if_neg (by omega),if_pos c3]
  have f0:fndH g=[g.j]:=by unfold fndH;rw[if_neg (by omega),if_pos c3]
  rw[if_neg c0,if_neg c1];unfold allF wgtP;dsimp only at hs⊢;rw[hs,e',sum_mid,sum_mid,fm,fm,w0,f0];refine⟨?_,?_⟩
  ·refine(List.Perm.append_right _ (insL_perm _ _)).trans ?_;show List.Perm (g.j::(ds++((A.flatMap fndH++B.flatMap fndH)++js.map jobJ))) (ds++((A.flatMap fndH++(g.j::B.flatMap fndH))++js.map jobJ));refine List.perm_middle.symm.trans (List.Perm.append_left _ ?_);exact(List.Perm.append_right _ List.perm_middle).symm
  ·show 3*js.length+(0+_)+1=_;omega
theorem step_kept{v:PlV}{i:Nat}(h:Vld v)(hi:i<v.hs.length):List.Perm (allF (stepP v i)) (allF v)∧wgtP (stepP v i)+stepN v i=wgtP v:=by
 unfold stepP stepN;split
 ·exact did_kept h hi (by assumption)
 ·exact⟨.refl _,rfl⟩
theorem run_kept:∀ {l:List Nat} {v:PlV},Vld v→(∀i∈l,i<v.hs.length)→List.Perm (allF (runP v l)) (allF v)∧wgtP (runP v l)+runN v l=wgtP v
 |[],_,_,_=>⟨.refl _,rfl⟩
 |i::l,v,h,k=>by
  have hi:=k i (List.mem_cons_self ..);obtain⟨h1,h2⟩:=step_kept h hi;obtain⟨h3,h4⟩:=run_kept (l:=l) (v:=stepP v i) (h.step hi) fun j hj=>by rw[step_hs];exact k j (List.mem_cons_of_mem _ hj)
  refine⟨h3.trans h1,?_⟩;show wgtP (runP (stepP v i) l)+(stepN v i+runN (stepP v i) l)=_;omega
def stepA(x:Nat×List Nat)(i:Nat):Nat×List Nat:=
 match x.2.getD i 0 with
 |0=>if x.1=0 then x else(x.1 - 1,x.2.set i 1)
 |1=>(x.1,x.2.set i 2)
 |_=>(x.1,x.2.set i 0)
def runA:Nat×List Nat→List Nat→Nat×List Nat
 |x,[]=>x
 |x,i::l=>runA (stepA x i) l
def absP(v:PlV):Nat×List Nat:=(v.js.length,v.hs.map fun h=>h.s.toNat)
theorem abs_step{v:PlV}{i:Nat}(h:Vld v)(hi:i<v.hs.length)(hd:v.ds.length<60):absP (stepP v i)=stepA (absP v) i:=by
 have hp:=hand_s (h.hand hi);have hg:(v.hs.map fun h=>h.s.toNat).getD i 0=(stgP v i).s.toNat:=by
  unfold stgP;rw[List.getD_eq_getElem?_getD,List.getElem?_map,List.getElem?_eq_getElem hi,List.getD_eq_getElem?_getD,List.getElem?_eq_getElem hi];rfl
 unfold stepA stepP absP;dsimp only;rw[hg];rcases hp with c|c|c
 ·rw[c];show _=(if v.js.length=0 then(v.js.length,v.hs.map fun h=>h.s.toNat)else(v.js.length - 1,(v.hs.map fun h=>h.s.toNat).set i 1));by_cases hj:v.js.length=0
  ·rw[if_pos hj,if_neg (by unfold canP;omega)]
  ·rw[if_neg hj,if_pos (by unfold canP;omega)];unfold didP;rw[if_pos c,List.map_set,List.length_drop];rfl
 ·rw[c,if_pos (by unfold canP;omega)];unfold didP;rw[if_neg (by omega),if_pos c,List.map_set];rfl
 ·rw[c,if_pos (by unfold canP;omega)];unfold didP;rw[if_neg (by omega),if_neg (by omega),List.map_set];rfl
theorem abs_run:∀ {l:List Nat} {v:PlV},Vld v→(∀i∈l,i<v.hs.length)→(allF v).length<60→absP (runP v l)=runA (absP v) l
 |[],_,_,_,_=>rfl
 |i::l,v,h,k,hf=>by
  have hi:=k i (List.mem_cons_self ..);have hk:=step_kept h hi;show absP (runP (stepP v i) l)=runA (stepA (absP v) i) l;rw[abs_run (l:=l) (h.step hi) (fun j hj=>by rw[step_hs];exact k j (List.mem_cons_of_mem _ hj)) (by rw[hk.1.length_eq];exact hf),abs_step h hi (Nat.lt_of_le_of_lt (ds_le v) hf)]
def turns(w:Nat):List Nat:=(List.range 60).map (· % w)
theorem turns1:∀n,n<9→∀a,a<3→runA (n,[a]) (turns 1)=(0,[0]):=by decide+kernel
theorem turns2:∀n,n<9→∀a,a<3→∀b,b<3→runA (n,[a,b]) (turns 2)=(0,[0,0]):=by decide+kernel
theorem turns3:∀n,n<9→∀a,a<3→∀b,b<3→∀c,c<3→runA (n,[a,b,c]) (turns 3)=(0,[0,0,0]):=by decide+kernel
theorem turns_all{w n:Nat}{l:List Nat}(hl:l.length=w)(hw:1≤w∧w≤3)(hn:n<9)(h3:∀x∈l,x<3):runA (n,l) (turns w)=(0,List.replicate w 0):=by
 match l,hl with
 |[],hl=>simp at hl;omega
 |[a],hl=>
  obtain rfl:w=1:=by simpa using hl.symm
  exact turns1 n hn a (h3 a (by simp))
 |[a,b],hl=>
  obtain rfl:w=2:=by simpa using hl.symm
  exact turns2 n hn a (h3 a (by simp)) b (h3 b (by simp))
 |[a,b,c],hl=>
  obtain rfl:w=3:=by simpa using hl.symm
  exact turns3 n hn a (h3 a (by simp)) b (h3 b (by simp)) c (h3 c (by simp))
 |_::_::_::_::_,hl=>simp at hl;omega
theorem abs_lt{v:PlV}(h:Vld v):∀x∈(absP v).2,x<3:=fun x hx=>by
 obtain⟨y,hy,rfl⟩:=List.mem_map.1 hx;have:=hand_s (h.h y hy);show y.s.toNat<3;omega
def idleP(v:PlV):Prop:=v.js=[]∧∀x∈v.hs,x.s=0
theorem idle_of{v:PlV}(h:Vld v){w:Nat}(ha:absP v=(0,List.replicate w 0)):idleP v:=by
 have h1:v.js.length=0:=congrArg Prod.fst ha;have h2:v.hs.map (fun h=>h.s.toNat)=List.replicate w 0:=congrArg Prod.snd ha;refine⟨List.length_eq_zero_iff.1 h1,fun x hx=>?_⟩;have hm:x.s.toNat∈v.hs.map fun h=>h.s.toNat:=List.mem_map.2 ⟨x,hx,rfl⟩;rw[h2]at hm;have h3:=(List.mem_replicate.1 hm).2;have:=hand_s (h.h x hx);omega
theorem idle_all{v:PlV}(h:idleP v):allF v=v.ds∧wgtP v=0:=by
 have h1:v.hs.flatMap fndH=[]:=List.flatMap_eq_nil_iff.2 fun x hx=>by unfold fndH;rw[h.2 x hx];rfl
 have h2:(v.hs.map wgtH).sum=0:=by
  have:∀l:List HdV,(∀x∈l,x.s=0)→(l.map wgtH).sum=0:=by
   intro l
   induction l with
   |nil=>intro _;rfl
   |cons x l ih=>
    intro hl;rw[List.map_cons,List.sum_cons,ih fun y hy=>hl y (List.mem_cons_of_mem _ hy)];unfold wgtH;rw[hl x (List.mem_cons_self ..)];rfl
  exact this _ h.2
 unfold allF wgtP;rw[h1,h2,h.1];simp
theorem same_list{l m:List JdV}(hp:List.Perm l m)(hl:(l.map JdV.t).Pairwise (· < ·))(hm:(m.map JdV.t).Pairwise (· < ·)):l=m:=by
 rw[List.pairwise_map]at hl hm;exact hp.eq_of_pairwise (fun a b _ _ h1 h2=>absurd h1 (by omega)) hl hm
def exQ0:PlV:=⟨3,[],[HdV.zero,HdV.zero],[]⟩
def exQ1:PlV:=⟨3,[⟨4,[]⟩],[HdV.zero,HdV.zero],[]⟩
def exQ2:PlV:=⟨3,[],[HdV.zero,⟨1,4,[],JdV.zero⟩],[]⟩
def exQ3:PlV:=⟨3,[],[HdV.zero,⟨2,0,[],ofJ 4 []⟩],[]⟩
def exQ4:PlV:=⟨3,[],[HdV.zero,HdV.zero],[ofJ 4 []]⟩
theorem newE_ok{n k:Int}(h:1≤n∧n≤8∧1≤k∧k≤3):newE n k=0:=by unfold newE;rw[if_neg (by omega)]
theorem exq_new:newE 3 2=0∧newV 3 2=exQ0:=by
 have h:newE 3 2=0:=newE_ok (by decide);exact⟨h,by unfold newV;rw[if_pos h];rfl⟩
theorem exq_put:putE exQ0 4=0∧putV exQ0 4 []=exQ1:=by
 have hv:vldP exQ0:=(vld_iff _).2 (by have:=Vld.new exq_new.1;rwa[exq_new.2]at this)
 have h : putE exQ0 4 = 0 := putE_0 hv (by decide) (fun ⟨x, hx, _⟩ => by
  have e : exQ0.tk ++ exQ0.jT = [] := rfl
  rw [e] at hx
  cases hx) (by decide)
 exact⟨h,(put_yes h).trans rfl⟩
theorem exq1_vld:Vld exQ1:=by
 have:=Vld.add (b:=[]) exq_put.1;exact this
theorem step_yes{v:PlV}{i:Nat}(h:canP v i):stepP v i=didP v i∧stepN v i=1:=⟨if_pos h,if_pos h⟩
theorem step_no{v:PlV}{i:Nat}(h:¬canP v i):stepP v i=v∧stepN v i=0:=⟨if_neg h,if_neg h⟩
theorem exq_s1:stepP exQ1 1=exQ2∧stepN exQ1 1=1:=by
 have h:=step_yes (v:=exQ1) (i:=1) (.inl ⟨rfl,by decide⟩);refine⟨h.1.trans ?_,h.2⟩;unfold didP;rw[if_pos (show(stgP exQ1 1).s=0 from rfl)];rfl
theorem exq_s2:stepP exQ2 1=exQ3∧stepN exQ2 1=1:=by
 have h:=step_yes (v:=exQ2) (i:=1) (.inr (.inl rfl));refine⟨h.1.trans ?_,h.2⟩;unfold didP;rw[if_neg (by decide),if_pos (show(stgP exQ2 1).s=1 from rfl)];rfl
theorem exq_s3:stepP exQ3 1=exQ4∧stepN exQ3 1=1:=by
 have h:=step_yes (v:=exQ3) (i:=1) (.inr (.inr ⟨by decide,by decide,by decide⟩));refine⟨h.1.trans ?_,h.2⟩;unfold didP;rw[if_neg (by decide),if_neg (by decide)];rfl
theorem exq_s4 : stepP exQ4 1 = exQ4 ∧ stepN exQ4 1 = 0 := step_no (by
 rintro (⟨_, h⟩ | h | ⟨h, _⟩)
 ·exact absurd h (by decide)
 ·exact absurd h (by decide)
 ·exact h rfl)
theorem exq_run:runE exQ1 [1,1,1,1]=0∧runV exQ1 [1,1,1,1]=exQ4∧runM exQ1 [1,1,1,1]=3:=by
 have h : runE exQ1 [1, 1, 1, 1] = 0 := runE_0 ((vld_iff _).2 exq1_vld) (by decide) (fun x hx => by
  have e : x = 1 := by simpa using hx
  rw [e]
  decide)
 obtain⟨h1,h2⟩:=run_yes h;refine⟨h,h1.trans ?_,h2.trans ?_⟩
 ·show runP exQ1 [1,1,1,1]=_;unfold runP;rw[exq_s1.1];unfold runP;rw[exq_s2.1];unfold runP;rw[exq_s3.1];unfold runP;rw[exq_s4.1];rfl
 ·show runN exQ1 [1,1,1,1]=_;unfold runN;rw[exq_s1.1,exq_s1.2];unfold runN;rw[exq_s2.1,exq_s2.2];unfold runN;rw[exq_s3.1,exq_s3.2];unfold runN;rw[exq_s4.1,exq_s4.2];rfl
theorem exq_vld4:Vld exQ4:=by
 have h:=exq_run;have k:=runE_in h.1
 have := exq1_vld.run (l := [1, 1, 1, 1]) (fun i hi => by
  have e : i = 1 := by simpa using hi
  rw [e]
  decide)
 rw[(run_yes h.1).1]at h;rwa[show runP exQ1 [1,1,1,1]=exQ4 from h.2.1]at this
theorem exq_take:takeE exQ4 4=0∧takeJ exQ4 4=ofJ 4 []:=by
 have hf:=first_sp exq_vld4.c2 (n:=4) (i:=0) (by decide) rfl;have h:takeE exQ4 4=0:=takeE_0 ((vld_iff _).2 exq_vld4) hf.1;refine⟨h,(take_yes h).2.trans ?_⟩;rw[hf.2];rfl
def filJ:Nat→List (List Int)→List JbV
 |_,[]=>[]
 |k,b::l=>⟨(k:Nat),b⟩::filJ (k+1) l
theorem filJ_len:∀(l:List (List Int)) (k:Nat),(filJ k l).length=l.length
 |[],_=>rfl
 |_::l,k=>by rw[filJ,List.length_cons,List.length_cons,filJ_len l]
theorem filJ_snoc(b:List Int):∀(l:List (List Int)) (k:Nat),filJ k (l++[b])=filJ k l++[⟨((k+l.length:Nat):Int),b⟩]
 |[],_=>rfl
 |c::l,k=>by
  rw[List.cons_append,filJ,filJ,filJ_snoc b l,List.length_cons,show k+1+l.length=k+(l.length+1)by omega];rfl
theorem filJ_t:∀(l:List (List Int)) (k:Nat),∀x∈filJ k l,(k:Int)≤x.t∧x.t<((k+l.length:Nat):Int)
 |[],_,x,h=>by cases h
 |b::l,k,x,h=>by
  rw[filJ]at h;rcases List.mem_cons.1 h with rfl|h
  ·dsimp only;rw[List.length_cons];omega
  ·have:=filJ_t l (k+1) x h;rw[List.length_cons];omega
theorem filJ_at:∀(l:List (List Int)) (k i:Nat) (b:List Int),l[i]? =some b→(filJ k l)[i]? =some ⟨((k+i:Nat):Int),b⟩
 |[],_,_,_,h=>by simp at h
 |c::l,k,0,b,h=>by
  have:c=b:=by simpa using h
  subst this;rfl
 |c::l,k,i+1,b,h=>by
  rw[filJ,List.getElem?_cons_succ,filJ_at l (k+1) i b (by simpa using h),show k+1+i=k+(i+1)by omega]
def filV(w:Nat)(l:List (List Int)):PlV:=⟨8,filJ 0 l,List.replicate w HdV.zero,[]⟩
section
variable{w:Nat}{l:List (List Int)}
theorem filV_new(hw:1≤w∧w≤3):newE 8 w=0∧newV 8 w=filV w []:=by
 have h:newE 8 w=0:=newE_ok (by omega);exact⟨h,by unfold newV;rw[if_pos h];rfl⟩
theorem filV_hands:(filV w l).hs.flatMap handL=[]∧(filV w l).hs.flatMap fndH=[]:=
 ⟨List.flatMap_eq_nil_iff.2 fun x hx=>by rw[(List.mem_replicate.1 hx).2];rfl,List.flatMap_eq_nil_iff.2 fun x hx=>by rw[(List.mem_replicate.1 hx).2];rfl⟩
theorem filV_tk:(filV w l).tk=[]:=by unfold PlV.tk;rw[filV_hands.1];rfl
theorem filV_put(h:Vld (filV w l))(hl:l.length<8)(b:List Int):putE (filV w l) (l.length:Nat)=0∧putV (filV w l) (l.length:Nat) b=filV w (l++[b]):=by
 have e : putE (filV w l) (l.length : Nat) = 0 := putE_0 ((vld_iff _).2 h) ⟨by omega, by omega⟩ (fun ⟨x, hx, hle⟩ => by
  rw [filV_tk, List.nil_append] at hx
  obtain ⟨y, hy, rfl⟩ := List.mem_map.1 hx
  have := filJ_t l 0 y hy
  omega) (by
  show ¬ ((filJ 0 l).length : Int) = 8
  rw [filJ_len]
  omega)
 refine⟨e,(put_yes e).trans ?_⟩;unfold addJ filV;rw[filJ_snoc,Nat.zero_add]
theorem filV_vld(hw:1≤w∧w≤3)(hl:l.length≤8):∀i,i≤l.length→Vld (filV w (l.take i))
 |0,_=>by
  have:=Vld.new (filV_new hw).1;rw[(filV_new hw).2]at this;exact this
 |i+1,hi=>by
  have ih:=filV_vld hw hl i (by omega);have hlen:(l.take i).length=i:=List.length_take_of_le (by omega);have h:=filV_put ih (by omega) l[i];have:=Vld.add (b:=l[i]) h.1;rw[←put_yes (b:=l[i]) h.1,h.2]at this;rwa[List.take_add_one,List.getElem?_eq_getElem (by omega),Option.toList_some]
theorem filV_all(hw:1≤w∧w≤3)(hl:l.length≤8):Vld (filV w l):=by
 have:=filV_vld (l:=l) hw hl l.length (Nat.le_refl _);rwa[List.take_length]at this
def filF(l:List (List Int)):List JdV:=(filJ 0 l).map jobJ
theorem filF_len:(filF l).length=l.length:=by unfold filF;rw[List.length_map,filJ_len]
theorem filF_at{i:Nat}{b:List Int}(h:l[i]? =some b):(filF l)[i]? =some (ofJ (i:Nat) b):=by
 unfold filF;rw[List.getElem?_map,filJ_at l 0 i b h,Nat.zero_add];rfl
theorem filV_allF:allF (filV w l)=filF l:=by
 unfold allF;rw[filV_hands.2];rfl
theorem filV_wgt:wgtP (filV w l)=3*l.length:=by
 unfold wgtP;have:∀n:Nat,((List.replicate n HdV.zero).map wgtH).sum=0:=fun n=>by
  induction n with
  |zero=>rfl
  |succ n ih=>rw[List.replicate_succ,List.map_cons,List.sum_cons,ih];rfl
 show 3*(filJ 0 l).length+((List.replicate w HdV.zero).map wgtH).sum=_;rw[filJ_len,this];rfl
theorem fil_end(hw:1≤w∧w≤3)(hl:l.length≤8){ps:List Nat}(hp:∀i∈ps,i<w)(hi:idleP (runP (filV w l) ps)):(runP (filV w l) ps).ds=filF l∧runN (filV w l) ps=3*l.length:=by
 have hv:=filV_all hw hl;have hh:(filV w l).hs.length=w:=List.length_replicate;obtain⟨h1,h2⟩:=run_kept hv (l:=ps) fun i hi=>by rw[hh];exact hp i hi
 have hr:=hv.run (l:=ps) fun i hi=>by rw[hh];exact hp i hi
 obtain⟨g1,g2⟩:=idle_all hi;rw[g1,filV_allF]at h1;rw[g2,filV_wgt]at h2;refine⟨same_list h1 hr.ds ?_,by omega⟩;have hj:=hv.js;have e:(filF l).map JdV.t=PlV.jT (filV w l):=by
  unfold filF PlV.jT filV;rw[List.map_map];rfl
 rw[e];exact hj
theorem fil_small(hl:l.length≤8){ps:List Nat}(hw:1≤w∧w≤3)(hp:∀i∈ps,i<w):(allF (runP (filV w l) ps)).length=l.length:=by
 have hh:(filV w l).hs.length=w:=List.length_replicate;rw[(run_kept (filV_all hw hl) (l:=ps) fun i hi=>by rw[hh];exact hp i hi).1.length_eq,filV_allF,filF_len]
theorem fil_turns(hw:1≤w∧w≤3)(hl:l.length≤8){ps:List Nat}(hp:∀i∈ps,i<w):idleP (runP (filV w l) (ps++turns w)):=by
 have hv:=filV_all hw hl;have hh:(filV w l).hs.length=w:=List.length_replicate;have ht:∀i∈turns w,i<w:=fun i hi=>by
  obtain⟨k,_,rfl⟩:=List.mem_map.1 hi;exact Nat.mod_lt _ (by omega)
 have hr:=hv.run (l:=ps) fun i hi=>by rw[hh];exact hp i hi
 have hs:=fil_small hl hw hp;have hrh:(runP (filV w l) ps).hs.length=w:=by rw[run_hs,hh]
 have hrr:=hr.run (l:=turns w) fun i hi=>by rw[hrh];exact ht i hi
 rw[runP_app];refine idle_of (w:=w) hrr ?_;rw[abs_run hr (fun i hi=>by rw[hrh];exact ht i hi) (by omega)];have hn:(runP (filV w l) ps).js.length≤l.length:=by rw[←hs,allF_len];omega
 exact turns_all (by rw[List.length_map,hrh]) hw (by omega) (abs_lt hr)
end
theorem Vld.less{v:PlV}(h:Vld v){ds:List JdV}(hs:ds.Sublist v.ds):Vld ⟨v.cap,v.js,v.hs,ds⟩:=by
 have hm:=hs.map JdV.t;have ht:(PlV.tk ⟨v.cap,v.js,v.hs,ds⟩).Sublist v.tk:=hm.append (.refl _);obtain⟨c1,c2,c3,c4,c5,c6⟩:=h.c;exact⟨⟨c1,c2,c3,c4,c5,Nat.le_trans hs.length_le c6⟩,fun x hx=>h.d x (hs.subset hx),h.ds.sublist hm,h.h,h.j,h.js,h.nd.sublist ht,fun x hx=>h.lt x (ht.subset hx)⟩
theorem take_first{v:PlV}(h:Vld v){d:JdV}{ds:List JdV}(e:v.ds=d::ds):takeE v d.t=0∧takeV v d.t=⟨v.cap,v.js,v.hs,ds⟩∧takeJ v d.t=d∧takeE ⟨v.cap,v.js,v.hs,ds⟩ d.t=38:=by
 have hg:v.ds.getD 0 JdV.zero=d:=by rw[e];rfl
 have hf:=first_sp h.c2 (n:=d.t) (i:=0) (by rw[e];exact Nat.zero_lt_succ _) (by rw[hg]);have h0:=takeE_0 ((vld_iff v).2 h) hf.1;obtain⟨h1,h2⟩:=take_yes h0;have hl:Vld ⟨v.cap,v.js,v.hs,ds⟩:=h.less (by rw[e];exact List.sublist_cons_self _ _);refine⟨h0,h1.trans ?_,h2.trans (by rw[hf.2,hg]),takeE_38 ((vld_iff _).2 hl) ?_⟩
 ·rw[hf.2];unfold cutD;rw[e];rfl
 ·rintro⟨x,hx,hxt⟩;have hp:=h.ds;unfold PlV.dT at hp;rw[e,List.map_cons,List.pairwise_cons]at hp;have:=hp.1 x.t (List.mem_map.2 ⟨x,hx,rfl⟩);omega
end S
namespace W
open Go.RowKit G
set_option maxRecDepth 20000
set_option maxHeartbeats 8000000
attribute [local irreducible] RS RX RY Code.wp bodyPost J Ent.blk Ent.irow Ent.iown Ent.wrow Ent.wown Ent.grow Ent.gown Ent.all Ent.emp
instance:Ents prog 22:=⟨.mk func22 (by kernel_rfl) rfl⟩
instance:Ents prog 19:=⟨.mk func19 (by kernel_rfl) rfl⟩
instance:Ents prog 20:=⟨.mk func20 (by kernel_rfl) rfl⟩
theorem intC1(x:Int):∀v∈[Value.int .i64 x, .int .i64 x, .int .i64 x, .int .i64 x],v.cells.size=1:=fun v hv=>by
 simp only[List.mem_cons,List.not_mem_nil,or_false,or_self]at hv;subst hv;rfl
theorem PlQ.jn{v:S.PlV}{p:PlA}(h:PlQ v p):v.js.length=p.jn:=by
 rw[←h.k.V];exact(List.length_map _).trans h.l.1
theorem PlQ.dn{v:S.PlV}{p:PlA}(h:PlQ v p):v.ds.length=p.dn:=by
 rw[←h.k.V];exact(List.length_map _).trans h.l.2.2
theorem plAlive(TK:TypeId)(w:World)(K0:Kst w TK):
  Calls prog 15 #[] w (Ret w fun v _=>v= .bool true):=by
 refine J.enter 74 func15 rfl rfl ?_;refine run ?_;refine J.call rfl rfl (fun w' M=>poolNew 3 2 w') fun u1 hu1=>?_
 obtain⟨u1,e1⟩:=u1;obtain⟨hu1,he1⟩:=hu1;dsimp only at hu1 he1⊢;subst he1;rw[S.exq_new.1];rw[S.exq_new.2]at hu1;refine run ?_;refine J.alloc rfl fun b1=>?_
 refine run ?_
 refine J.call rfl rfl (fun w' M => by
  have := poolPut u1 ⟨4, none, 0, 0, []⟩ TK w' (K0.ext M.ext) (PlR.own hu1 w' M) ⟨⟨Nat.le_refl _, Nat.zero_le _⟩, (IRow.nil : IRow .u8 no w' none 0 [])⟩
  rwa [hu1.V] at this) fun u2 hu2 => ?_
 obtain⟨u2,e2⟩:=u2;obtain⟨hu2,he2⟩:=hu2;dsimp only at hu2 he2⊢;subst he2;rw[S.exq_put.1];rw[S.exq_put.2]at hu2;refine run ?_;refine J.alloc rfl fun b2=>?_
 refine run ?_;refine J.bnG inC [1,1,1,1] (fun _=>rfl) rfl rfl rfl (intC1 1) fun b3=>?_
 refine run ?_
 refine J.call rfl rfl (fun w' M => (RG.own' (a := some ⟨b3, 0, none⟩) w' M).elim fun _ k0 => by
  have := poolRun u2 (some ⟨b3, 0, none⟩) 4 4 [1, 1, 1, 1] TK w' (K0.ext M.ext) (PlR.own hu2 w' M) k0 (by omega)
  rwa [hu2.V] at this) fun u3 hu3 => ?_
 obtain⟨u3,n3,e3⟩:=u3;obtain⟨hu3,hn3,he3⟩:=hu3;dsimp only at hu3 hn3 he3⊢;subst hn3 he3;rw[S.exq_run.1,S.exq_run.2.2];rw[S.exq_run.2.1]at hu3;refine run ?_;refine J.alloc rfl fun b4=>?_
 refine run ?_
 refine J.call rfl rfl (fun w' M => by
  have := poolTake u3 4 TK w' (K0.ext M.ext) (PlR.ownF hu3 w' M)
  rwa [hu3.k.V] at this) fun u4 hu4 => ?_
 obtain⟨u4,z4,e4⟩:=u4;obtain⟨hp4,hj4,hk4,he4⟩:=hu4;dsimp only at hp4 hj4 hk4 he4⊢;subst he4;rw[S.exq_take.1];rw[S.exq_take.2]at hj4;refine run ?_;refine J.alloc rfl fun b5=>?_
 refine J.alloc rfl fun b6=>?_
 have g1:(0:Nat)=u3.jn:=hu3.jn;have g2:(1:Nat)=u3.dn:=hu3.dn;have g3:z4.t=4:=congrArg S.JdV.t hj4;have g4:z4.v=2:=congrArg S.JdV.v hj4;refine run ?_;refine J.spe rfl rfl rfl (fun _=>?_) (fun c=>absurd (by rw[←g1];rfl) c);refine run ?_;refine J.spe rfl rfl rfl (fun _=>?_) (fun c=>absurd (by rw[←g2];rfl) c);refine run ?_;refine J.spe rfl rfl rfl (fun _=>?_) (fun c=>absurd g3 c);refine run ?_;exact J.fin (congrArg _ (by rw[g4];rfl))
instance:Und prog 41 (.slice 63):=⟨underlying41⟩
theorem PRow.g{k:IntKind}{S0:Nat→Prop}{w:World}{a:Option Addr}{n:Nat}{ps:List Pc}(h:PRow k S0 w a n ps):GRow pcC 1 S0 w a n ps:=by
 have e:ps.flatMap pcC=ps.map Pc.val:=by
  clear h
  induction ps with
  |nil=>rfl
  |cons p ps ih=>rw[List.flatMap_cons,List.map_cons,ih];rfl
 exact⟨by rw[e];exact h.row,h.len,fun _=>rfl⟩
theorem plLong{S0:Nat→Prop}(a:Option Addr)(m c:Nat)(ps:List Pc)(w:World)(D:PRow .u8 S0 w a m ps):
  Calls prog 16 #[.slice a m c] w (Gv w (fun q:Bool=> .bool q) (fun _=>[]) fun q=>q=false→m≤8∧∀p∈ps,p.n≤600):=by
 have G2:=PRow.g D;have hl:=D.len;refine J.enter 18 func16 rfl rfl ?_;refine run ?_;refine J.ifd rfl (fun c1=>?_) (fun c1=>?_)
 ·refine run ?_;exact J.finG true rfl (fun h=>by cases h) (List.nil_sublist _)
 refine run ?_;refine J.loopS (A:=Int) (fun i=>[(3, .int .i64 i)]) [2,7,8,9,10,11,12,13,14,15,16,17,18] (fun i=>(0≤i∧i≤m)∧∀p∈ps.take i.toNat,p.n≤600) (fun i=>m - i.toNat) 0 (by kernel_rfl) ⟨by omega,fun p hp=>by simp at hp⟩ (fun i j hI=>?_);obtain⟨hi,hI⟩:=hI;refine run ?_;refine J.ifd rfl (fun c2=>?_) (fun c2=>?_)
 ·obtain⟨y,hy⟩:=G2.ex (i:=i) (by omega);refine run ?_;refine J.ifd rfl (fun c3=>?_) (fun c3=>?_)
  ·refine run ?_;exact J.finG true rfl (fun h=>by cases h) (List.nil_sublist _)
  refine run ?_;refine J.nextS (i+1) ⟨rfl,trivial⟩ (by kernel_rfl) ⟨by omega,fun p hp=>?_⟩ (by omega);rw[show(i+1).toNat=i.toNat+1 by omega,List.take_add_one,hy,Option.toList_some]at hp;rcases List.mem_append.1 hp with e|e
  ·exact hI p e
  rw[List.mem_singleton]at e;rw[e];omega
 refine run ?_;rw[List.take_of_length_le (by omega)]at hI;exact J.finG false rfl (fun _=>⟨by omega,hI⟩) (List.nil_sublist _)
structure FiA where
 (i:Nat)(p:PlA)
theorem plFilled{S0:Nat→Prop}(k:Nat)(a:Option Addr)(m c:Nat)(ps:List Pc)(TK:TypeId)(w:World)(K0:Kst w TK)(D:PRow .u8 S0 w a m ps)(hk:1≤k∧k≤3)(hm:m≤8)(h6:∀p∈ps,p.n≤600):
  Calls prog 17 #[.int .i64 k, .slice a m c] w (Gv w (fun q:PlA=> .tuple #[.agg (plC q).toArray, .bool true]) (fun q=>plE q) (PlP (S.filV k (ps.map Pc.xs)))):=by
 have G2:=PRow.g D;have hl:=D.len;have hml:(ps.map Pc.xs).length=m:=by rw[List.length_map,hl]
 refine J.enter 39 func17 rfl rfl ?_;refine run ?_;refine J.alloc rfl fun b4=>?_
 refine run ?_;refine J.call rfl rfl (fun w' M=>poolNew 8 k w') fun u hu=>?_
 obtain⟨u,e⟩:=u;obtain⟨hu,he⟩:=hu;dsimp only at hu he⊢;subst he;rw[(S.filV_new hk).1];rw[(S.filV_new hk).2]at hu;refine run ?_;refine J.alloc rfl fun b6=>?_
 refine run ?_;refine J.loop (A:=FiA) (fun r=>[(8, .int .i64 (r.i:Nat))]) [5,9,10,19,20,21,22,23,24,25,26,27,28,29,30,31,32,33,34,35,36,37,38,39] (fun r=>[.blk b6 (plC r.p) 26, .gown jbC 2 65 r.p.ja r.p.jn r.p.jc r.p.js, .gown hdC 48 67 r.p.ha r.p.hn r.p.hc r.p.hs, .gown jdC 45 61 r.p.da r.p.dn r.p.dc r.p.ds, .all (r.p.js.map jbE), .all (r.p.hs.map hdE), .all (r.p.ds.map jdE), .blk b4 [.int .i64 0, .slice none 0 0, .slice none 0 0, .slice none 0 0] 26]) (fun r=>r.i≤m∧PlP (S.filV k ((ps.map Pc.xs).take r.i)) r.p) (fun r=>m - r.i) ⟨0,u⟩ (by kernel_rfl) ⟨Nat.zero_le _,hu⟩ (fun r j hI=>?_);obtain⟨hi,hr⟩:=hI;refine run ?_;refine J.ifd rfl (fun d1=>?_) (fun d1=>?_)
 ·obtain⟨y,hy⟩:=G2.ex (i:=(r.i:Nat)) (by omega);have hy':ps[r.i]? =some y:=hy;obtain⟨hy1,hy2⟩:=D.each y (List.mem_of_getElem? hy');have hy6:=h6 y (List.mem_of_getElem? hy');have hv:=S.filV_vld (l:=ps.map Pc.xs) hk (by omega) r.i (by omega);have htl:((ps.map Pc.xs).take r.i).length=r.i:=List.length_take_of_le (by omega);obtain⟨hp1,hp2⟩:=S.filV_put hv (by omega) y.xs;rw[htl]at hp1 hp2;have et:(ps.map Pc.xs).take r.i++[y.xs]=(ps.map Pc.xs).take (r.i+1):=by
   rw[List.take_add_one,List.getElem?_map,hy'];rfl
  rw[et]at hp2;refine run ?_;refine J.joinX (A:=PlA×Nat) (fun u=>[(9, .pointer (some ⟨u.2,0,none⟩)),(10, .int .i64 0)]) [25,26,27,28,29,30,31,32,33,34,35] (fun u=>[.blk u.2 (plC u.1) 26, .gown jbC 2 65 u.1.ja u.1.jn u.1.jc u.1.js, .gown hdC 48 67 u.1.ha u.1.hn u.1.hc u.1.hs, .gown jdC 45 61 u.1.da u.1.dn u.1.dc u.1.ds, .all (u.1.js.map jbE), .all (u.1.hs.map hdE), .all (u.1.ds.map jdE), .blk b6 (plC r.p) 26, .gown jbC 2 65 r.p.ja r.p.jn r.p.jc r.p.js, .gown hdC 48 67 r.p.ha r.p.hn r.p.hc r.p.hs, .gown jdC 45 61 r.p.da r.p.dn r.p.dc r.p.ds, .all (r.p.js.map jbE), .all (r.p.hs.map hdE), .all (r.p.ds.map jdE), .blk b4 [.int .i64 0, .slice none 0 0, .slice none 0 0, .slice none 0 0] 26]) (fun u=>PlP (S.filV k ((ps.map Pc.xs).take (r.i+1))) u.1) ?_ (fun u j2 hu2=>?_)
  ·refine J.regionT [.blk b6 (plC r.p) 26] (.br [(0, .q),(1, .q),(2, .q),(3, .q),(4, .q),(5, .q),(6, .q)] 7 (.fin [(8, .q),(9, .q),(10, .q),(11, .e),(12, .e),(13, .q)]) 11 (.fin [(7, .e),(8, .q),(9, .q),(10, .q),(12, .e),(13, .q)])) mixed (by kernel_rfl) (by repeat(first|exact List.Sublist.refl _|refine List.Sublist.cons_cons _ ?_|refine List.Sublist.cons _ ?_)) ?_;refine run ?_;refine J.nil (J.kt ?_ ?_)
   ·refine J.call rfl rfl (fun w' M => by
     have := poolPut r.p ⟨(r.i : Nat), y.a, y.n, y.c, y.xs⟩ TK w' (K0.ext M.ext) (PlR.own hr w' M) ⟨⟨hy2, hy6⟩, hy1.ext M.ext⟩
     rwa [hr.V] at this) fun q hq => ?_
    obtain⟨q,e⟩:=q;obtain⟨hq,he⟩:=hq;dsimp only at hq he⊢;subst he;rw[hp1];rw[hp2]at hq;refine run ?_;refine J.alloc rfl fun b9=>?_
    refine run ?_;refine J.front (.blk b9 (plC q) 26) ?_;refine J.drop (E:=[.blk b9 (plC q) 26, .gown jbC 2 65 q.ja q.jn q.jc q.js, .gown hdC 48 67 q.ha q.hn q.hc q.hs, .gown jdC 45 61 q.da q.dn q.dc q.ds, .all (q.js.map jbE), .all (q.hs.map hdE), .all (q.ds.map jdE), .blk b6 (plC r.p) 26, .gown jbC 2 65 r.p.ja r.p.jn r.p.jc r.p.js, .gown hdC 48 67 r.p.ha r.p.hn r.p.hc r.p.hs, .gown jdC 45 61 r.p.da r.p.dn r.p.dc r.p.ds, .all (r.p.js.map jbE), .all (r.p.hs.map hdE), .all (r.p.ds.map jdE), .blk b4 [.int .i64 0, .slice none 0 0, .slice none 0 0, .slice none 0 0] 26]) sb ?_;exact J.cut (q,b9) ⟨rfl,rfl,trivial⟩ (by kernel_rfl) hq
   refine J.alloc rfl fun b9=>?_
   refine run ?_
   refine J.call rfl rfl (fun w' M => by
    have := poolPut r.p ⟨(r.i : Nat), y.a, y.n, y.c, y.xs⟩ TK w' (K0.ext M.ext) (PlR.own hr w' M) ⟨⟨hy2, hy6⟩, hy1.ext M.ext⟩
    rwa [hr.V] at this) fun q hq => ?_
   obtain⟨q,e⟩:=q;obtain⟨hq,he⟩:=hq;dsimp only at hq he⊢;subst he;rw[hp1];rw[hp2]at hq;refine run ?_;refine J.front (.blk b9 (plC q) 26) ?_;refine J.drop (E:=[.blk b9 (plC q) 26, .gown jbC 2 65 q.ja q.jn q.jc q.js, .gown hdC 48 67 q.ha q.hn q.hc q.hs, .gown jdC 45 61 q.da q.dn q.dc q.ds, .all (q.js.map jbE), .all (q.hs.map hdE), .all (q.ds.map jdE), .blk b6 (plC r.p) 26, .gown jbC 2 65 r.p.ja r.p.jn r.p.jc r.p.js, .gown hdC 48 67 r.p.ha r.p.hn r.p.hc r.p.hs, .gown jdC 45 61 r.p.da r.p.dn r.p.dc r.p.ds, .all (r.p.js.map jbE), .all (r.p.hs.map hdE), .all (r.p.ds.map jdE), .blk b4 [.int .i64 0, .slice none 0 0, .slice none 0 0, .slice none 0 0] 26]) sb ?_;exact J.cut (q,b9) ⟨rfl,rfl,trivial⟩ (by kernel_rfl) hq
  obtain⟨q,b9⟩:=u;dsimp only at hu2⊢;refine run ?_;refine J.front (.blk b6 (plC q) 26) ?_;refine J.drop (E:=[.blk b6 (plC q) 26, .gown jbC 2 65 q.ja q.jn q.jc q.js, .gown hdC 48 67 q.ha q.hn q.hc q.hs, .gown jdC 45 61 q.da q.dn q.dc q.ds, .all (q.js.map jbE), .all (q.hs.map hdE), .all (q.ds.map jdE), .blk b4 [.int .i64 0, .slice none 0 0, .slice none 0 0, .slice none 0 0] 26]) sb ?_;exact J.next ⟨r.i+1,q⟩ ⟨rfl,trivial⟩ (by kernel_rfl) ⟨by dsimp only;omega,hu2⟩ (by dsimp only;omega)
 rw[List.take_of_length_le (by omega)]at hr;refine run ?_;exact J.finG r.p rfl hr sb
end W
namespace S
open G
theorem one_run{v:PlV}(h:vldP v){i:Nat}(hi:i<v.hs.length):runE v [((i:Nat):Int)]=0∧runV v [((i:Nat):Int)]=stepP v i∧runM v [((i:Nat):Int)]=stepN v i:=by
 have e : runE v [((i : Nat) : Int)] = 0 := runE_0 h (by simp) (fun x hx => by
  rw [List.mem_singleton] at hx
  rw [hx]
  omega)
 obtain⟨h1,h2⟩:=run_yes e;exact⟨e,h1,h2.trans (Nat.add_zero _)⟩
end S
namespace W
open Go.RowKit G
set_option maxRecDepth 20000
set_option maxHeartbeats 2500000
attribute [local irreducible] RS RX RY Code.wp bodyPost J Ent.blk Ent.irow Ent.iown Ent.wrow Ent.wown Ent.grow Ent.gown Ent.all Ent.emp
instance:Ents prog 15:=⟨.mk func15 (by kernel_rfl) rfl⟩
instance:Ents prog 16:=⟨.mk func16 (by kernel_rfl) rfl⟩
instance:Ents prog 17:=⟨.mk func17 (by kernel_rfl) rfl⟩
instance:Ents prog 10:=⟨.mk func10 (by kernel_rfl) rfl⟩
structure JuA where
 (i:Nat)(p:PlA)
theorem PlP.q{v:S.PlV}{p:PlA}(h:PlP v p)(h1:p.js.length=p.jn)(h2:p.hs.length=p.hn)(h3:p.ds.length=p.dn)(h4:p.jn≤p.jc):PlQ v p:=⟨h,h4,h1,h2,h3⟩
theorem poolJudges{S0 S1:Nat→Prop}(k:Int)(a:Option Addr)(m c:Nat)(ps:List Pc)(a2:Option Addr)(m2 c2:Nat)(xs:List Int)(TK:TypeId)(w:World)(K0:Kst w TK)(D:PRow .u8 S0 w a m ps)(D0:GRow inC 1 S1 w a2 m2 xs):
  Calls prog 6 #[.int .i64 k, .slice a m c, .slice a2 m2 c2] w (Ret w fun v _=>v= .bool true):=by
 have hl:=D.len;have hl2:=D0.len;have hml:(ps.map Pc.xs).length=m:=by rw[List.length_map,hl]
 refine J.enter 186 func6 rfl rfl ?_;refine run ?_;refine J.callp rfl rfl (fun w' M=>plAlive TK w' (K0.ext M.ext)) ?_;refine run ?_;refine J.spd rfl rfl rfl (fun c1=>?_) (fun c1=>?_)
 ·refine run ?_;exact J.fin rfl
 refine run ?_;refine J.spd rfl rfl rfl (fun c2=>?_) (fun c2=>?_)
 ·refine run ?_;exact J.fin rfl
 refine run ?_;refine J.call rfl rfl (fun w' M=>plLong a m c ps w' (D.ext M.ext)) fun g hg=>?_
 refine run ?_;cases g with
 |true=>
  refine run ?_;exact J.fin rfl
 |false=>
 obtain⟨hm,h6⟩:=hg rfl;refine run ?_;refine J.spd rfl rfl rfl (fun c3=>?_) (fun c3=>?_)
 ·refine run ?_;exact J.fin rfl
 obtain⟨n,rfl⟩:∃n:Nat,k=n:=⟨k.toNat,by omega⟩
 have hn3:1≤n∧n≤3:=by omega
 refine run ?_;refine J.call rfl rfl (fun w' M=>plFilled n a m c ps TK w' (K0.ext M.ext) (D.ext M.ext) hn3 hm h6) fun u1 hu1=>?_
 refine run ?_;refine J.alloc rfl fun b8=>?_
 refine run ?_;obtain⟨l,hle⟩:=ex (ps.map Pc.xs);rw[←hle]at hu1 hml;have hlv:=S.filV_all (w:=n) (l:=l) hn3 (by omega);have hlh:(S.filV n l).hs.length=n:=List.length_replicate;refine J.fact (.gown jbC 2 65 u1.ja u1.jn u1.jc u1.js) (fun _ _ h=>(gown_e h).1.len) fun hq1=>?_
 refine J.fact (.gown hdC 48 67 u1.ha u1.hn u1.hc u1.hs) (fun _ _ h=>(gown_e h).1.len) fun hq2=>?_
 refine J.fact (.gown jdC 45 61 u1.da u1.dn u1.dc u1.ds) (fun _ _ h=>(gown_e h).1.len) fun hq3=>?_
 refine J.fact (.gown jbC 2 65 u1.ja u1.jn u1.jc u1.js) (fun _ _ h=>(gown_e h).1.capn) fun hq4=>?_
 refine J.re (.gown jbC 2 65 u1.ja u1.jn u1.jc u1.js) (.grow jbC 2 u1.ja u1.jn u1.js) (fun _ _ h=>gown_grow h) ?_;refine J.loop (A:=JuA) (fun r=>[(10, .int .i64 (r.i:Nat))]) [6,11,12,13,57,58,59,60,61,62,63,64,65,66,67,68,69,70,71,72,73,74,75,76,77,78,79,80,81,82,83,84,85,86,87,88,89,90,91,92,93] (fun r=>[.blk b8 (plC r.p) 26, .grow jbC 2 r.p.ja r.p.jn r.p.js, .gown hdC 48 67 r.p.ha r.p.hn r.p.hc r.p.hs, .gown jdC 45 61 r.p.da r.p.dn r.p.dc r.p.ds, .all (r.p.js.map jbE), .all (r.p.hs.map hdE), .all (r.p.ds.map jdE)]) (fun r=>r.i≤m2∧∃qs:List Nat,(∀i∈qs,i<n)∧PlQ (S.runP (S.filV n l) qs) r.p) (fun r=>m2 - r.i) ⟨0,u1⟩ (by kernel_rfl) ⟨Nat.zero_le _,[],fun _ h=>(by cases h),hu1.q hq1 hq2 hq3 hq4⟩ (fun r j hI=>?_);obtain⟨hi,qs,hqs,hr⟩:=hI;refine run ?_;refine J.ifd rfl (fun d1=>?_) (fun d1=>?_)
 ·obtain⟨x,hx⟩:=D0.ex (i:=(r.i:Nat)) (by omega);refine run ?_;refine J.spd rfl rfl rfl (fun d2=>?_) (fun d2=>?_)
  ·refine run ?_;exact J.next ⟨r.i+1,r.p⟩ ⟨rfl,trivial⟩ (by kernel_rfl) ⟨by dsimp only;omega,qs,hqs,hr⟩ (by dsimp only;omega)
  refine run ?_;refine J.ifd rfl (fun d3=>?_) (fun d3=>?_)
  ·refine run ?_;exact J.next ⟨r.i+1,r.p⟩ ⟨rfl,trivial⟩ (by kernel_rfl) ⟨by dsimp only;omega,qs,hqs,hr⟩ (by dsimp only;omega)
  obtain⟨x,rfl⟩:∃y:Nat,x=y:=⟨x.toNat,by omega⟩
  have hxn:x<n:=by omega
  have hvr:=hlv.run (l:=qs) fun i hi=>by rw[hlh];exact hqs i hi
  have hrh:(S.runP (S.filV n l) qs).hs.length=n:=by rw[S.run_hs,hlh]
  obtain⟨o1,o2,o3⟩:=S.one_run ((S.vld_iff _).2 hvr) (i:=x) (by omega);refine run ?_;refine J.joinX (A:=PlA×Nat×Nat) (fun u=>[(11, .pointer (some ⟨u.2.1,0,none⟩)),(12, .bool (decide ((0:Int)<((u.2.2:Nat):Int)))),(13, .int .i64 0)]) [76,77,78,79,80,81,82,83,84,85] (fun u=>[.blk u.2.1 (plC u.1) 26, .grow jbC 2 u.1.ja u.1.jn u.1.js, .gown hdC 48 67 u.1.ha u.1.hn u.1.hc u.1.hs, .gown jdC 45 61 u.1.da u.1.dn u.1.dc u.1.ds, .all (u.1.js.map jbE), .all (u.1.hs.map hdE), .all (u.1.ds.map jdE), .blk b8 (plC r.p) 26, .grow jbC 2 r.p.ja r.p.jn r.p.js, .gown hdC 48 67 r.p.ha r.p.hn r.p.hc r.p.hs, .gown jdC 45 61 r.p.da r.p.dn r.p.dc r.p.ds, .all (r.p.js.map jbE), .all (r.p.hs.map hdE), .all (r.p.ds.map jdE)]) (fun u=>PlQ (S.stepP (S.runP (S.filV n l) qs) x) u.1) ?_ (fun u j3 hu=>?_)
  ·refine J.regionT [.blk b8 (plC r.p) 26] (.br [(0, .q),(1, .q),(2, .q),(3, .q),(4, .q)] 5 (.fin [(6, .q),(7, .q),(8, .q),(9, .q),(10, .e),(11, .e),(12, .q),(13, .q)]) 10 (.fin [(5, .e),(6, .q),(7, .q),(8, .q),(9, .q),(11, .e),(12, .q),(13, .q)])) mixed (by kernel_rfl) (by repeat(first|exact List.Sublist.refl _|refine List.Sublist.cons_cons _ ?_|refine List.Sublist.cons _ ?_)) ?_;refine run ?_;refine J.nil (J.kt ?_ ?_)
   ·refine J.call rfl rfl (fun w' M => by
     have := poolStep1 r.p (x : Nat) TK w' (K0.ext M.ext) (PlR.ownF hr w' M)
     rwa [hr.k.V] at this) fun v hv => ?_
    obtain⟨v,n,e⟩:=v;obtain⟨hv,hn,he⟩:=hv;dsimp only at hv hn he⊢;rw[o1]at he;rw[o2]at hv;rw[o3]at hn;subst he;refine run ?_;refine J.alloc rfl fun b9=>?_
    refine run ?_;refine J.front (.blk b9 (plC v) 26) ?_;refine J.drop (E:=[.blk b9 (plC v) 26, .grow jbC 2 v.ja v.jn v.js, .gown hdC 48 67 v.ha v.hn v.hc v.hs, .gown jdC 45 61 v.da v.dn v.dc v.ds, .all (v.js.map jbE), .all (v.hs.map hdE), .all (v.ds.map jdE), .blk b8 (plC r.p) 26, .grow jbC 2 r.p.ja r.p.jn r.p.js, .gown hdC 48 67 r.p.ha r.p.hn r.p.hc r.p.hs, .gown jdC 45 61 r.p.da r.p.dn r.p.dc r.p.ds, .all (r.p.js.map jbE), .all (r.p.hs.map hdE), .all (r.p.ds.map jdE)]) sb ?_;exact J.cut (v,b9,n) ⟨rfl,rfl,rfl,trivial⟩ (by kernel_rfl) hv
   refine J.alloc rfl fun b9=>?_
   refine run ?_
   refine J.call rfl rfl (fun w' M => by
    have := poolStep1 r.p (x : Nat) TK w' (K0.ext M.ext) (PlR.ownF hr w' M)
    rwa [hr.k.V] at this) fun v hv => ?_
   obtain⟨v,n,e⟩:=v;obtain⟨hv,hn,he⟩:=hv;dsimp only at hv hn he⊢;rw[o1]at he;rw[o2]at hv;rw[o3]at hn;subst he;refine run ?_;refine J.front (.blk b9 (plC v) 26) ?_;refine J.drop (E:=[.blk b9 (plC v) 26, .grow jbC 2 v.ja v.jn v.js, .gown hdC 48 67 v.ha v.hn v.hc v.hs, .gown jdC 45 61 v.da v.dn v.dc v.ds, .all (v.js.map jbE), .all (v.hs.map hdE), .all (v.ds.map jdE), .blk b8 (plC r.p) 26, .grow jbC 2 r.p.ja r.p.jn r.p.js, .gown hdC 48 67 r.p.ha r.p.hn r.p.hc r.p.hs, .gown jdC 45 61 r.p.da r.p.dn r.p.dc r.p.ds, .all (r.p.js.map jbE), .all (r.p.hs.map hdE), .all (r.p.ds.map jdE)]) sb ?_;exact J.cut (v,b9,n) ⟨rfl,rfl,rfl,trivial⟩ (by kernel_rfl) hv
  obtain⟨v,b9,nn⟩:=u;dsimp only at hu⊢;have hvv:S.vldE v.V=0:=S.vldE_0 (by rw[hu.k.V];exact(S.vld_iff _).2 (hvr.step (by omega)));refine run ?_;refine J.callp rfl rfl (fun w' M=>refPCheck v w' (PlR.ownF hu w' M)) ?_;rw[hvv];refine run ?_;refine J.front (.blk b8 (plC v) 26) ?_;refine J.drop (E:=[.blk b8 (plC v) 26, .grow jbC 2 v.ja v.jn v.js, .gown hdC 48 67 v.ha v.hn v.hc v.hs, .gown jdC 45 61 v.da v.dn v.dc v.ds, .all (v.js.map jbE), .all (v.hs.map hdE), .all (v.ds.map jdE)]) sb ?_;refine J.next ⟨r.i+1,v⟩ ⟨rfl,trivial⟩ (by kernel_rfl) ⟨by dsimp only;omega,qs++[x],fun i hi=>?_,by dsimp only;rw[S.runP_snoc];exact hu⟩ (by dsimp only;omega);rcases List.mem_append.1 hi with h|h
  ·exact hqs i h
  rw[List.mem_singleton]at h;rw[h];exact hxn
 obtain⟨i0,p0⟩:=r;dsimp only at hr⊢;clear d1;refine run ?_;refine J.loop (A:=JuA) (fun r=>[(14, .int .i64 (r.i:Nat))]) [6,15,16,17,94,95,96,97,98,99,100,101,102,103,104,105,106,107,108,109] (fun r=>[.blk b8 (plC r.p) 26, .grow jbC 2 r.p.ja r.p.jn r.p.js, .gown hdC 48 67 r.p.ha r.p.hn r.p.hc r.p.hs, .gown jdC 45 61 r.p.da r.p.dn r.p.dc r.p.ds, .all (r.p.js.map jbE), .all (r.p.hs.map hdE), .all (r.p.ds.map jdE)]) (fun r=>r.i≤60∧PlQ (S.runP (S.filV n l) (qs++(List.range r.i).map (· % n))) r.p) (fun r=>60 - r.i) ⟨0,p0⟩ (by kernel_rfl) ⟨Nat.zero_le _,by rw[show qs++(List.range 0).map (· % n)=qs from List.append_nil _];exact hr⟩ (fun r j2 hI=>?_);obtain⟨hj,hr⟩:=hI;refine run ?_;refine J.ifd rfl (fun d1=>?_) (fun d1=>?_)
 ·have hmn:r.i % n<n:=Nat.mod_lt _ (by omega);have hvr:=hlv.run (l:=qs++(List.range r.i).map (· % n)) fun i hi=>by
   rw[hlh];rcases List.mem_append.1 hi with h|h
   ·exact hqs i h
   obtain⟨y,_,rfl⟩:=List.mem_map.1 h;exact Nat.mod_lt _ (by omega)
  have hrh:(S.runP (S.filV n l) (qs++(List.range r.i).map (· % n))).hs.length=n:=by rw[S.run_hs,hlh]
  obtain⟨o1,o2,o3⟩:=S.one_run ((S.vld_iff _).2 hvr) (i:=r.i % n) (by omega);refine run0 ?_;refine J.joinX (A:=PlA×Nat×Nat) (fun u=>[(15, .pointer (some ⟨u.2.1,0,none⟩)),(16, .bool (decide ((0:Int)<((u.2.2:Nat):Int)))),(17, .int .i64 0)]) [98,99,100,101,102,103,104,105,106] (fun u=>[.blk u.2.1 (plC u.1) 26, .grow jbC 2 u.1.ja u.1.jn u.1.js, .gown hdC 48 67 u.1.ha u.1.hn u.1.hc u.1.hs, .gown jdC 45 61 u.1.da u.1.dn u.1.dc u.1.ds, .all (u.1.js.map jbE), .all (u.1.hs.map hdE), .all (u.1.ds.map jdE), .blk b8 (plC r.p) 26, .grow jbC 2 r.p.ja r.p.jn r.p.js, .gown hdC 48 67 r.p.ha r.p.hn r.p.hc r.p.hs, .gown jdC 45 61 r.p.da r.p.dn r.p.dc r.p.ds, .all (r.p.js.map jbE), .all (r.p.hs.map hdE), .all (r.p.ds.map jdE)]) (fun u=>PlQ (S.stepP (S.runP (S.filV n l) (qs++(List.range r.i).map (· % n))) (r.i % n)) u.1) ?_ (fun u j3 hu=>?_)
  ·refine J.regionT [.blk b8 (plC r.p) 26] (.br [(0, .q),(1, .q),(2, .q),(3, .q)] 4 (.fin [(5, .q),(6, .q),(7, .q),(8, .q),(9, .e),(10, .e),(11, .q),(12, .q)]) 9 (.fin [(4, .e),(5, .q),(6, .q),(7, .q),(8, .q),(10, .e),(11, .q),(12, .q)])) mixed (by kernel_rfl) (by repeat(first|exact List.Sublist.refl _|refine List.Sublist.cons_cons _ ?_|refine List.Sublist.cons _ ?_)) ?_;refine run ?_;refine J.nil (J.kt ?_ ?_)
   ·refine J.call rfl rfl (fun w' M => by
     have := poolStep1 r.p ((r.i % n : Nat) : Int) TK w' (K0.ext M.ext) (PlR.ownF hr w' M)
     rwa [hr.k.V] at this) fun v hv => ?_
    obtain⟨v,n,e⟩:=v;obtain⟨hv,hn,he⟩:=hv;dsimp only at hv hn he⊢;rw[o1]at he;rw[o2]at hv;rw[o3]at hn;subst he;refine run ?_;refine J.alloc rfl fun b9=>?_
    refine run ?_;refine J.front (.blk b9 (plC v) 26) ?_;refine J.drop (E:=[.blk b9 (plC v) 26, .grow jbC 2 v.ja v.jn v.js, .gown hdC 48 67 v.ha v.hn v.hc v.hs, .gown jdC 45 61 v.da v.dn v.dc v.ds, .all (v.js.map jbE), .all (v.hs.map hdE), .all (v.ds.map jdE), .blk b8 (plC r.p) 26, .grow jbC 2 r.p.ja r.p.jn r.p.js, .gown hdC 48 67 r.p.ha r.p.hn r.p.hc r.p.hs, .gown jdC 45 61 r.p.da r.p.dn r.p.dc r.p.ds, .all (r.p.js.map jbE), .all (r.p.hs.map hdE), .all (r.p.ds.map jdE)]) sb ?_;exact J.cut (v,b9,n) ⟨rfl,rfl,rfl,trivial⟩ (by kernel_rfl) hv
   refine J.alloc rfl fun b9=>?_
   refine run ?_
   refine J.call rfl rfl (fun w' M => by
    have := poolStep1 r.p ((r.i % n : Nat) : Int) TK w' (K0.ext M.ext) (PlR.ownF hr w' M)
    rwa [hr.k.V] at this) fun v hv => ?_
   obtain⟨v,n,e⟩:=v;obtain⟨hv,hn,he⟩:=hv;dsimp only at hv hn he⊢;rw[o1]at he;rw[o2]at hv;rw[o3]at hn;subst he;refine run ?_;refine J.front (.blk b9 (plC v) 26) ?_;refine J.drop (E:=[.blk b9 (plC v) 26, .grow jbC 2 v.ja v.jn v.js, .gown hdC 48 67 v.ha v.hn v.hc v.hs, .gown jdC 45 61 v.da v.dn v.dc v.ds, .all (v.js.map jbE), .all (v.hs.map hdE), .all (v.ds.map jdE), .blk b8 (plC r.p) 26, .grow jbC 2 r.p.ja r.p.jn r.p.js, .gown hdC 48 67 r.p.ha r.p.hn r.p.hc r.p.hs, .gown jdC 45 61 r.p.da r.p.dn r.p.dc r.p.ds, .all (r.p.js.map jbE), .all (r.p.hs.map hdE), .all (r.p.ds.map jdE)]) sb ?_;exact J.cut (v,b9,n) ⟨rfl,rfl,rfl,trivial⟩ (by kernel_rfl) hv
  obtain⟨v,b9,nn⟩:=u;dsimp only at hu⊢;refine run ?_;refine J.front (.blk b8 (plC v) 26) ?_;refine J.drop (E:=[.blk b8 (plC v) 26, .grow jbC 2 v.ja v.jn v.js, .gown hdC 48 67 v.ha v.hn v.hc v.hs, .gown jdC 45 61 v.da v.dn v.dc v.ds, .all (v.js.map jbE), .all (v.hs.map hdE), .all (v.ds.map jdE)]) sb ?_;refine J.next ⟨r.i+1,v⟩ ⟨rfl,trivial⟩ (by kernel_rfl) ⟨by dsimp only;omega,?_⟩ (by dsimp only;omega);dsimp only;rw[List.range_succ,List.map_append,←List.append_assoc];rw[show([r.i].map (· % n))=[r.i % n]from rfl,S.runP_snoc];exact hu
 obtain⟨i1,p1⟩:=r;dsimp only at hj hr d1⊢;obtain rfl:i1=60:=by omega
 have hidle:=S.fil_turns (w:=n) (l:=l) hn3 (by omega) hqs
 have hend := S.fil_end (w := n) (l := l) hn3 (by omega) (ps := qs ++ S.turns n) (fun i hi => by
  rcases List.mem_append.1 hi with h | h
  ·exact hqs i h
  obtain ⟨y, _, rfl⟩ := List.mem_map.1 h
  exact Nat.mod_lt _ (by omega)) hidle
 have hve:=hlv.run (l:=qs++S.turns n) fun i hi=>by
  rw[hlh];rcases List.mem_append.1 hi with h|h
  ·exact hqs i h
  obtain⟨y,_,rfl⟩:=List.mem_map.1 h;exact Nat.mod_lt _ (by omega)
 have hr:PlQ (S.runP (S.filV n l) (qs++S.turns n)) p1:=hr;obtain⟨v0,ev0⟩:=ex (S.runP (S.filV n l) (qs++S.turns n));rw[←ev0]at hr hend hve hidle;have hj0:p1.jn=0:=by rw[←hr.jn,hidle.1];rfl
 have hd0:p1.dn=m:=by rw[←hr.dn,hend.1,S.filF_len,hml]
 refine run ?_;refine J.spn rfl rfl rfl (fun c=>absurd (by omega) c) (fun _=>?_);refine run ?_;refine J.ifn rfl (fun c=>absurd (by omega) c) (fun _=>?_);refine run ?_;refine J.loop (A:=JuA) (fun r=>[(18, .int .i64 (r.i:Nat))]) [6,19,20,21,22,23,24,25,26,27,122,123,124,125,126,127,128,129,130,131,132,133,134,135,136,137,138,139,140,141,142,143,144,145,146,147,148,149,150,151,152,153,154,155,156,157,158,159,160,161,162,163,164,165,166,167,168,169,170,171,172,173,174,175,176,177,178,179,180,181,182,183,184,185,186,187] (fun r=>[.blk b8 (plC r.p) 26, .grow jbC 2 r.p.ja r.p.jn r.p.js, .gown hdC 48 67 r.p.ha r.p.hn r.p.hc r.p.hs, .gown jdC 45 61 r.p.da r.p.dn r.p.dc r.p.ds, .all (r.p.js.map jbE), .all (r.p.hs.map hdE), .all (r.p.ds.map jdE)]) (fun r=>r.i≤m∧∃v,S.Vld v∧v.ds=(S.filF l).drop r.i∧PlQ v r.p) (fun r=>m - r.i) ⟨0,p1⟩ (by kernel_rfl) ⟨Nat.zero_le _,v0,hve,hend.1,hr⟩ (fun r j4 hI=>?_);obtain⟨hi2,v,hv,hvd,hr⟩:=hI;refine run ?_;refine J.ifd rfl (fun d2=>?_) (fun d2=>?_)
 ·obtain⟨y,hy⟩:∃y,ps[r.i]? =some y:=⟨_,List.getElem?_eq_getElem (by omega)⟩
  obtain⟨hy1,hy2⟩:=D.each y (List.mem_of_getElem? hy);have hy6:=h6 y (List.mem_of_getElem? hy);have G2:=PRow.g D;have hy':ps[((r.i:Nat):Int).toNat]? =some y:=hy;have hfa:=S.filF_at (l:=l) (i:=r.i) (b:=y.xs) (by rw[hle,List.getElem?_map,hy];rfl);have hfl:r.i<(S.filF l).length:=by rw[S.filF_len,hml];omega
  have hcons:v.ds=S.ofJ (r.i:Nat) y.xs::(S.filF l).drop (r.i+1):=by
   rw[hvd,List.drop_eq_getElem_cons hfl];rw[List.getElem?_eq_getElem hfl]at hfa;rw[Option.some.inj hfa]
  obtain⟨t1,t2,t3,t4⟩:=S.take_first hv hcons;have hvn:S.Vld ⟨v.cap,v.js,v.hs,(S.filF l).drop (r.i+1)⟩:=hv.less (by rw[hcons];exact List.sublist_cons_self _ _);change S.takeE v (r.i:Nat)=0 at t1;change S.takeV v (r.i:Nat)=_ at t2;change S.takeJ v (r.i:Nat)=_ at t3;change S.takeE _ (r.i:Nat)=38 at t4;have hrd:r.p.dn=m - r.i:=by rw[←hr.dn,hvd,List.length_drop,S.filF_len,hml]
  refine run ?_
  refine J.call rfl rfl (fun w' M => by
   have := poolTake r.p (r.i : Nat) TK w' (K0.ext M.ext) (PlR.ownF hr w' M)
   rwa [hr.k.V] at this) fun u hu => ?_
  obtain⟨q,z,e⟩:=u;obtain⟨hp4,hj4,hk4,he4⟩:=hu;dsimp only at hp4 hj4 hk4 he4⊢;rw[t1]at he4;rw[t2]at hp4;rw[t3]at hj4;subst he4;have gt:z.t=(r.i:Nat):=congrArg S.JdV.t hj4;have gv:z.v=S.jdV y.xs:=congrArg S.JdV.v hj4;have gi:z.id=S.jdI y.xs:=congrArg S.JdV.id hj4;have hzl:=jdC_len' z;have hjI:=S.jdI_arr y.xs;refine run ?_;refine J.alloc rfl fun b19=>?_
  refine J.alloc rfl fun b20=>?_
  refine run ?_;refine J.fact (.gown jbC 2 65 q.ja q.jn q.jc q.js) (fun _ _ h=>(gown_e h).1.len) fun hq1=>?_
  refine J.fact (.gown hdC 48 67 q.ha q.hn q.hc q.hs) (fun _ _ h=>(gown_e h).1.len) fun hq2=>?_
  refine J.fact (.gown jdC 45 61 q.da q.dn q.dc q.ds) (fun _ _ h=>(gown_e h).1.len) fun hq3=>?_
  refine J.fact (.gown jbC 2 65 q.ja q.jn q.jc q.js) (fun _ _ h=>(gown_e h).1.capn) fun hq4=>?_
  refine J.re (.gown jbC 2 65 q.ja q.jn q.jc q.js) (.grow jbC 2 q.ja q.jn q.js) (fun _ _ h=>gown_grow h) ?_;have hQ:=hp4.q hq1 hq2 hq3 hq4;have hqd:q.dn=m - r.i - 1:=by
   rw[←hQ.dn];show((S.filF l).drop (r.i+1)).length=_;rw[List.length_drop,S.filF_len,hml];omega
  refine J.call rfl rfl (fun w' M=>judgeV y.a y.n y.c y.xs TK w' (K0.ext M.ext) (hy1.ext M.ext) hy2 (by omega)) fun q2 hq2=>?_
  refine run ?_;refine J.alloc rfl fun b22=>?_
  refine J.alloc rfl fun b23=>?_
  refine J.staw rfl rfl ?_;refine J.staw rfl rfl ?_;refine J.as rfl ?_;refine J.nilN ?_;refine run0 ?_;have hlens:(((q.dn:Nat):Int) != ((r.p.dn:Nat):Int) - 1)=false:=by simp;omega
  refine J.joinX (A:=Unit) (fun u=>[(177, .bool false)]) [144,145,146,147,148,149,150,151,152,153,154,155,156,157,158,159,160,161,162,163,164,165,166,167,168,169,170,171,172,173,174,175,176] (fun u=>[.blk b19 (plC q) 26, .grow jbC 2 q.ja q.jn q.js, .gown hdC 48 67 q.ha q.hn q.hc q.hs, .gown jdC 45 61 q.da q.dn q.dc q.ds, .all (q.js.map jbE), .all (q.hs.map hdE), .all (q.ds.map jdE), .blk b8 (plC r.p) 26]) (fun u=>True) ?_ (fun u j5 hu=>?_)
  ·refine run ?_;refine J.spn rfl rfl rfl (fun c=>absurd gt c) (fun _=>?_);refine run ?_;refine J.spn rfl rfl rfl (fun c=>absurd gv c) (fun _=>?_);refine run ?_;refine J.spe rfl rfl rfl (fun c4=>?_) (fun c4=>?_)
   ·refine run ?_;refine J.ldp rfl ?_ (hv:=jdC_id z.h) (hn:=by rw[ints_length,z.h]);have hz32:z.id.length=32:=z.h;refine run ?_;refine J.spd rfl rfl rfl (fun c=>absurd gi c) (fun _=>?_);refine run ?_;rw[hlens];refine J.drop (E:=[.blk b19 (plC q) 26, .grow jbC 2 q.ja q.jn q.js, .gown hdC 48 67 q.ha q.hn q.hc q.hs, .gown jdC 45 61 q.da q.dn q.dc q.ds, .all (q.js.map jbE), .all (q.hs.map hdE), .all (q.ds.map jdE), .blk b8 (plC r.p) 26]) sb ?_;exact J.cut () ⟨rfl,trivial⟩ (by kernel_rfl) trivial
   refine run ?_;rw[hlens];refine J.drop (E:=[.blk b19 (plC q) 26, .grow jbC 2 q.ja q.jn q.js, .gown hdC 48 67 q.ha q.hn q.hc q.hs, .gown jdC 45 61 q.da q.dn q.dc q.ds, .all (q.js.map jbE), .all (q.hs.map hdE), .all (q.ds.map jdE), .blk b8 (plC r.p) 26]) sb ?_;exact J.cut () ⟨rfl,trivial⟩ (by kernel_rfl) trivial
  refine run ?_
  refine J.call rfl rfl (fun w' M => by
   have := poolTake q (r.i : Nat) TK w' (K0.ext M.ext) (PlR.ownF hQ w' M)
   rwa [hQ.k.V] at this) fun u3 hu3 => ?_
  obtain⟨q3,z3,e3⟩:=u3;obtain⟨hp5,hj5,hk5,he5⟩:=hu3;dsimp only at hp5 hj5 hk5 he5⊢;rw[t4]at he5;subst he5;have hzl3:=jdC_len' z3;refine run ?_;refine J.alloc rfl fun b25=>?_
  refine J.alloc rfl fun b26=>?_
  refine run ?_;refine J.front (.blk b8 (plC q) 26) ?_;refine J.drop (E:=[.blk b8 (plC q) 26, .grow jbC 2 q.ja q.jn q.js, .gown hdC 48 67 q.ha q.hn q.hc q.hs, .gown jdC 45 61 q.da q.dn q.dc q.ds, .all (q.js.map jbE), .all (q.hs.map hdE), .all (q.ds.map jdE)]) sb ?_;exact J.next ⟨r.i+1,q⟩ ⟨rfl,trivial⟩ (by kernel_rfl) ⟨by dsimp only;omega,_,hvn,rfl,hQ⟩ (by dsimp only;omega)
 refine run ?_;exact J.fin rfl
end W
end Go.Proofs.YtfoaecjggdaieaaGreatDoor
