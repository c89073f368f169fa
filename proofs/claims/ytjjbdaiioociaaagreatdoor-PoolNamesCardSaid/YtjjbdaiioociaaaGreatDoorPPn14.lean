/-
  Part 14 of the lemmas of these laws: PoolNames.
-/
import Derived.Test.YtjjbdaiioociaaaGreatDoorPPn13
set_option linter.unusedVariables false
set_option linter.unusedSimpArgs false
open Go.Proofs.Tryz
namespace Go.Proofs.YtjjbdaiioociaaaGreatDoor
namespace W
open Go.RowKit G
set_option maxRecDepth 20000
set_option maxHeartbeats 8000000
attribute [local irreducible] RS RX RY Code.wp bodyPost J Ent.blk Ent.irow Ent.iown Ent.wrow Ent.wown Ent.grow Ent.gown Ent.all Ent.emp
instance:Ents prog 116:=⟨.mk func116 (by kernel_rfl) rfl⟩
theorem judgeV{S0:Nat→Prop}(a:Option Addr)(n c:Nat)(bs:List Int)(TK:TypeId)(w:World)(K0:Kst w TK)(R0:IRow .u8 S0 w a n bs)(hc:n≤c)(hn:n≤1000):
  Calls prog 116 #[.slice a n c] w (Gv w (fun q:Option Addr×Nat=> .tuple #[.agg (opC ⟨S.jdO bs,q.1,q.2⟩).toArray, .agg (ints .u8 (S.jdI bs)).toArray, .int .u8 (S.jdV bs)]) (fun q=>[.wrow .u8 32 q.1 (S.jdO bs).n (S.jdO bs).ids]) fun q=>(S.jdO bs).n≤q.2):=
 Gv.of (judgeOf a n c bs TK w K0 R0 hc (by omega)) fun v w' _ ⟨a',c',hv,hcc,W⟩=>⟨(a',c'),hv,hcc,sep1 (wrow_i W)⟩
theorem hd_own{Z:Nat→Prop}{w0:World}{L:List Ent}{hs:List HdA}{F:Ent→List Ent}[R:RE L (.all (hs.map hdE)) F](hk:∀h∈hs,HdK h){i:Nat}{z:HdA}(hz:hs[i]? =some z)(w:World)(M:Mem Z w0 L w):∃S,HdR S w z:=by
 obtain⟨A,_,e⟩:=M.get (R.h (.all (hs.map hdE))).same;obtain⟨S',_,k⟩:=sep_mem (List.mem_map.2 ⟨z,List.mem_of_getElem? hz,rfl⟩) (all_e e);exact⟨S',hdR_e (hk z (List.mem_of_getElem? hz)) k⟩
theorem PlQ.judge{v:S.PlV}{cap:Int}{ja ha da:Option Addr}{jn jc hn hc dn dc k:Nat}{js:List JbA}{hs:List HdA}{ds:List JdA}{h0:HdA}{j:JdA}(h:PlQ v ⟨cap,ja,jn,jc,js,ha,hn,hc,hs,da,dn,dc,ds⟩)(hz:hs[k]? =some h0)(h1:(S.stgP v k).s=1)(hj:j.V=S.ofJ h0.jt h0.bs)(hk:JdK j):
  PlQ (S.didP v k) ⟨cap,ja,jn,jc,js,ha,hn,hc,hs.set k ⟨2,0,none,0,0,[],j⟩,da,dn,dc,ds⟩:=by
 obtain⟨⟨hV,hjj,hh,hd,hn'⟩,hc0,l1,l2,l3⟩:=h;dsimp only at hjj hh hd hn' hc0 l1 l2 l3;have ez:=PlA.hAt (p:=⟨cap,ja,jn,jc,js,ha,hn,hc,hs,da,dn,dc,ds⟩) hz;rw[hV]at ez;have ez:S.stgP v k=h0.V:=ez;refine⟨⟨?_,hjj,fun x hx=>?_,hd,hn'⟩,hc0,l1,by dsimp only;rw[List.length_set,l2],l3⟩
 ·unfold S.didP;rw[if_neg (by omega),if_pos h1,ez];subst hV;unfold PlA.V;dsimp only;rw[List.map_set];unfold HdA.V;dsimp only;rw[hj]
 rcases List.mem_or_eq_of_mem_set hx with k|rfl
 ·exact hh x k
 exact⟨hk,Nat.le_refl _,Nat.zero_le _⟩
theorem spl_id(t v:Int)(o:OpA)(id:List Int)(h:id.length=32){x:List Int}(hx:x.length=32):splice (jdC ⟨t,v,o,id,h⟩) 13 (ints .u8 x)=jdC ⟨t,v,o,x,hx⟩:=by
 rw[splice_mid _ _ _ (by rw[jdC_len',ints_length,hx];decide),List.drop_of_length_le (by rw[jdC_len',ints_length,hx];decide),List.append_nil];rfl
theorem fillO_h2{x:Value}{vs:List Value}(h:vs.length=45):fillO [(0,1),(1,2),(3,45)] 48 [(0,[x]),(2,vs)]=true:=by
 simp[fillO,h]
theorem jdO_k{b:List Int}(hB:Bd .u8 b){t:Int}{pa:Option Addr}{pc:Nat}(hc:(S.jdO b).n≤pc):JdK ⟨t,S.jdV b,⟨S.jdO b,pa,pc⟩,S.jdI b,(S.jdI_arr b).1⟩:=⟨(S.jdO_ok hB).1,hc,S.jdI_arr b⟩
@[reducible] def hdJ(j:JdA):HdA:=⟨2,0,none,0,0,[],j⟩
theorem wkJudge{Z:Nat→Prop}{v:S.PlV}(p:PlA)(bw bp bh:Nat)(fv:Value)(i:Int)(TK:TypeId)(w:World)(K0:Kst w TK)(hg:¬Z gK)(hS:Sep (wkE bw bp bh i fv p) Z w)(hq:PlQ v p)(ha:p.ha=some ⟨bh,0,none⟩)(hi:0≤i∧i<p.hn)(hz:(S.stgP v i.toNat).s=1):
  Calls prog 73 #[.pointer (some ⟨bw,0,none⟩)] w (Gm w Z (fun q:PlA×Bool=> .bool q.2) (fun q=>wkE bw bp bh i fv q.1) (WkP v i)):=by
 obtain⟨cap,ja,jn,jc,js,ha2,hn,hc,hs,da,dn,dc,ds⟩:=p;dsimp only[wkE,plF]at hS ha hi⊢;subst ha;have hhl:=hq.l.2.1;have hkk:=hq.k.h;dsimp only at hhl hkk;obtain⟨h0,hh0⟩:∃z,hs[i.toNat]? =some z:=⟨_,List.getElem?_eq_getElem (by omega)⟩
 have hst:=hq.stg hh0;have hk0:=hkk h0 (List.mem_of_getElem? hh0);have hb6:=hk0.n;have hjI:=S.jdI_arr h0.bs;refine J.enterM 42 hS func73 rfl rfl ?_;refine J.fact (p:=Bd .u8 h0.bs) (.all (hs.map hdE)) (fun _ _ h=>let ⟨_,_,k⟩:=sep_mem (List.mem_map.2 ⟨h0,List.mem_of_getElem? hh0,rfl⟩) (all_e h);(hdR_e hk0 k).row.bd) fun hbd=>?_
 refine run ?_;refine J.ldGf (a:=some ⟨bh,0,none⟩) (i:=i) (off:=2) rfl RG.own' ?_;refine run ?_;refine J.call rfl rfl (fun w' M=>(hd_own hkk hh0 w' M).elim fun _ k0=>judgeV h0.ba h0.bn h0.bc h0.bs TK w' (K0.pr M.pr hg) k0.row hk0.cap (by omega)) fun q hq1=>?_
 refine run ?_;refine J.alloc rfl fun b3=>?_
 refine J.alloc rfl fun b4=>?_
 refine run ?_;refine J.ldGf (a:=some ⟨bh,0,none⟩) (i:=i) (off:=1) rfl RG.own' ?_;refine run ?_;refine J.alloc rfl fun b6=>?_
 refine run ?_;refine J.ife rfl (fun c1=>?_) (fun c1=>?_)
 ·refine J.regionR [.blk b4 (ints .u8 (S.jdI h0.bs)) 23, .blk b3 (opC ⟨S.jdO h0.bs,q.1,q.2⟩) 34] [(0, .q),(1, .q),(2, .q),(3, .e),(4, .q),(5, .e)] mixed (by kernel_rfl) (by repeat(first|exact List.Sublist.refl _|refine List.Sublist.cons_cons _ ?_|refine List.Sublist.cons _ ?_)) ?_;refine run ?_;refine J.sta rfl rfl ?_ (hn:=by rw[ints_length,hjI.1]) (hv:=ints_cellB _ _) (ho:=by rfl) (hc:=spl_id h0.jt (S.jdV h0.bs) ⟨S.jdO h0.bs,q.1,q.2⟩ (List.replicate 32 0) rfl hjI.1);refine run ?_;obtain⟨jj,ejj⟩:=ex (⟨h0.jt,S.jdV h0.bs,⟨S.jdO h0.bs,q.1,q.2⟩,S.jdI h0.bs,hjI.1⟩:JdA);rw[←ejj];have hVj:jj.V=S.ofJ h0.jt h0.bs:=by rw[ejj];rfl
  have hKj:JdK jj:=by rw[ejj];exact jdO_k hbd hq1
  refine J.re (.wrow .u8 32 q.1 (S.jdO h0.bs).n (S.jdO h0.bs).ids) (jdE jj) (fun _ _ h=>by rw[ejj];exact h) ?_;refine run ?_;refine J.regionX [(0, .q),(1, .q),(2, .q),(3, .q),(4, .q),(5, .q),(6, .q),(7, .g)] mixed (by kernel_rfl) ?_;refine run ?_;refine J.bd rfl ?_ (ho:=by exact fillO_h2 (jdC_len' jj)) (hf:=by exact spl_hd (h:=hdJ jj) rfl rfl);refine run ?_;refine J.stG (f:=hdC) (a:=some ⟨bh,0,none⟩) (i:=i) (q:=hdJ jj) rfl rfl rfl ?_ (hv:=hdC_cells (hdJ jj));refine run ?_;refine J.openA (hs.map hdE) i.toNat (e:=hdE h0) (by rw[List.getElem?_map,hh0];rfl) ?_;refine J.nilR .u8 ?_;refine J.pair (.irow .u8 none 0 []) (jdE jj) ?_;refine J.re (.all [.irow .u8 none 0 [],jdE jj]) (hdE (hdJ jj)) (fun _ _ h=>h) ?_;refine J.shutA (hs.map hdE) i.toNat (hdE (hdJ jj)) (by rw[List.length_map];omega) ?_;rw[←List.map_set];refine J.front (.all ((hs.set i.toNat (hdJ jj)).map hdE)) ?_;refine J.front (.all (js.map jbE)) ?_;refine J.front (.gown jdC 45 36 da dn dc ds) ?_;refine J.front (.gown hdC 48 46 (some ⟨bh,0,none⟩) hn hc (hs.set i.toNat (hdJ jj))) ?_;refine J.front (.grow jbC 2 ja jn js) ?_;refine J.front (.blk bp [.int .i64 cap, .slice ja jn jc, .slice (some ⟨bh,0,none⟩) hn hc, .slice da dn dc] 41) ?_;refine J.front (.blk bw [.pointer (some ⟨bp,0,none⟩),pt (some ⟨bh,0,none⟩) (i.toNat*48),fv] 143) ?_;exact J.finM ((⟨cap,ja,jn,jc,js,some ⟨bh,0,none⟩,hn,hc,hs.set i.toNat (hdJ jj),da,dn,dc,ds⟩:PlA),true) rfl (WkP.yes (.inr (.inl hz)) (hq.judge hh0 hz hVj hKj)) sb
 obtain⟨jj,ejj⟩:=ex (⟨h0.jt,S.jdV h0.bs,⟨S.OpV.zero,none,0⟩,List.replicate 32 0,rfl⟩:JdA);have hVj:jj.V=S.ofJ h0.jt h0.bs:=by
  rw[ejj];unfold S.ofJ;rw[(S.jd_ne c1).1,(S.jd_ne c1).2]
 have hKj:JdK jj:=by rw[ejj];exact⟨S.OpV.zero_ok,Nat.le_refl _,zero_ids⟩
 change J Z w (Ent.blk b6 (jdC ⟨h0.jt,S.jdV h0.bs,⟨S.OpV.zero,none,0⟩,List.replicate 32 0,rfl⟩) 36::_) _;rw[←ejj];refine J.nilW .u8 32 ?_;refine J.re (.wrow .u8 32 none 0 []) (jdE jj) (fun _ _ h=>by rw[ejj];exact h) ?_;refine run ?_;refine J.regionX [(0, .q),(1, .q),(2, .q),(3, .q),(4, .q),(5, .q),(6, .q),(7, .g)] mixed (by kernel_rfl) ?_;refine run ?_;refine J.bd rfl ?_ (ho:=by exact fillO_h2 (jdC_len' jj)) (hf:=by exact spl_hd (h:=hdJ jj) rfl rfl);refine run ?_;refine J.stG (f:=hdC) (a:=some ⟨bh,0,none⟩) (i:=i) (q:=hdJ jj) rfl rfl rfl ?_ (hv:=hdC_cells (hdJ jj));refine run ?_;refine J.openA (hs.map hdE) i.toNat (e:=hdE h0) (by rw[List.getElem?_map,hh0];rfl) ?_;refine J.nilR .u8 ?_;refine J.pair (.irow .u8 none 0 []) (jdE jj) ?_;refine J.re (.all [.irow .u8 none 0 [],jdE jj]) (hdE (hdJ jj)) (fun _ _ h=>h) ?_;refine J.shutA (hs.map hdE) i.toNat (hdE (hdJ jj)) (by rw[List.length_map];omega) ?_;rw[←List.map_set];refine J.front (.all ((hs.set i.toNat (hdJ jj)).map hdE)) ?_;refine J.front (.all (js.map jbE)) ?_;refine J.front (.gown jdC 45 36 da dn dc ds) ?_;refine J.front (.gown hdC 48 46 (some ⟨bh,0,none⟩) hn hc (hs.set i.toNat (hdJ jj))) ?_;refine J.front (.grow jbC 2 ja jn js) ?_;refine J.front (.blk bp [.int .i64 cap, .slice ja jn jc, .slice (some ⟨bh,0,none⟩) hn hc, .slice da dn dc] 41) ?_;refine J.front (.blk bw [.pointer (some ⟨bp,0,none⟩),pt (some ⟨bh,0,none⟩) (i.toNat*48),fv] 143) ?_;exact J.finM ((⟨cap,ja,jn,jc,js,some ⟨bh,0,none⟩,hn,hc,hs.set i.toNat (hdJ jj),da,dn,dc,ds⟩:PlA),true) rfl (WkP.yes (.inr (.inl hz)) (hq.judge hh0 hz hVj hKj)) sb
instance:Ents prog 117:=⟨.mk func117 (by kernel_rfl) rfl⟩
theorem PlQ.put{v:S.PlV}{cap:Int}{ja ha da da':Option Addr}{jn jc hn hc dn dc dc' k n':Nat}{js:List JbA}{hs:List HdA}{ds:List JdA}{h0:HdA}(h:PlQ v ⟨cap,ja,jn,jc,js,ha,hn,hc,hs,da,dn,dc,ds⟩)(hz:hs[k]? =some h0)(h2:(S.stgP v k).s=2)(hd:dn<60)(en:n'=dn+1):
  PlQ (S.didP v k) ⟨cap,ja,jn,jc,js,ha,hn,hc,hs.set k HdA.zero,da',n',dc',ds.take (S.spT v h0.j.t)++h0.j::ds.drop (S.spT v h0.j.t)⟩:=by
 obtain⟨⟨hV,hjj,hh,hdd,hn'⟩,hc0,l1,l2,l3⟩:=h;dsimp only at hjj hh hdd hn' hc0 l1 l2 l3;have ez:=PlA.hAt (p:=⟨cap,ja,jn,jc,js,ha,hn,hc,hs,da,dn,dc,ds⟩) hz;rw[hV]at ez;have ez:S.stgP v k=h0.V:=ez;have hle:S.spT v h0.j.t≤ds.length:=by
  have:=S.spT_le v h0.j.t;have e:v.ds.length=ds.length:=by rw[←hV];exact List.length_map _
  omega
 have eV:S.didP v k=⟨v.cap,v.js,v.hs.set k S.HdV.zero,S.insL v.ds (S.spT v h0.j.t) h0.j.V⟩:=by
  unfold S.didP;rw[if_neg (by omega),if_neg (by omega),ez]
 rw[eV];generalize S.spT v h0.j.t=q at hle;refine⟨⟨?_,hjj,fun x hx=>?_,fun x hx=>?_,by dsimp only;omega⟩,hc0,l1,by dsimp only;rw[List.length_set,l2],by dsimp only;simp;omega⟩
 ·subst hV;unfold PlA.V S.insL;dsimp only;rw[List.map_set,List.map_append,List.map_cons,List.map_take,List.map_drop];rfl
 ·rcases List.mem_or_eq_of_mem_set hx with k|rfl
  ·exact hh x k
  exact HdK.zero
 rcases List.mem_append.1 hx with k|k
 ·exact hdd x (List.mem_of_mem_take k)
 rcases List.mem_cons.1 k with rfl|k
 ·exact(hh h0 (List.mem_of_getElem? hz)).j
 exact hdd x (List.mem_of_mem_drop k)
theorem hd_j(h:HdA):((hdC h).drop 3).take 45=jdC h.j:=List.take_of_length_le (by show(jdC h.j).length≤45;rw[jdC_len'];exact Nat.le_refl _)
theorem wkPut{Z:Nat→Prop}{v:S.PlV}(p:PlA)(bw bp bh:Nat)(fv:Value)(i:Int)(w:World)(hS:Sep (wkE bw bp bh i fv p) Z w)(hq:PlQ v p)(hvl:S.Vld v)(ha:p.ha=some ⟨bh,0,none⟩)(hi:0≤i∧i<p.hn)(hz:(S.stgP v i.toNat).s=2):
  Calls prog 74 #[.pointer (some ⟨bw,0,none⟩)] w (Gm w Z (fun q:PlA×Bool=> .bool q.2) (fun q=>wkE bw bp bh i fv q.1) (WkP v i)):=by
 obtain⟨cap,ja,jn,jc,js,ha2,hn,hc,hs,da,dn,dc,ds⟩:=p;dsimp only[wkE,plF]at hS ha hi⊢;subst ha;have hhl:=hq.l.2.1;have hdl:=hq.l.2.2;have hkk:=hq.k.h;have hV:=hq.k.V;have hn2:=hq.k.n;dsimp only at hhl hdl hkk hn2;obtain⟨h0,hh0⟩:∃z,hs[i.toNat]? =some z:=⟨_,List.getElem?_eq_getElem (by omega)⟩
 have hst:=hq.stg hh0;have hdv:v.ds.length=dn:=by rw[←hV];exact(List.length_map _).trans hdl
 have hd60:v.ds.length≤60:=hvl.c.2.2.2.2.2;have hjl:=jdC_len' h0.j;refine J.enterM 57 hS func74 rfl rfl ?_;refine run ?_;refine J.ife rfl (fun c1=>?_) (fun c1=>?_)
 ·refine run ?_;exact J.finM ((⟨cap,ja,jn,jc,js,some ⟨bh,0,none⟩,hn,hc,hs,da,dn,dc,ds⟩:PlA),false) rfl (WkP.no hq fun h=>by unfold S.canP at h;omega) sb
 refine run ?_;refine J.ldGa (a:=some ⟨bh,0,none⟩) (i:=i) (sz:=48) (off:=3) rfl RG.own' ?_ (q:=h0) (hf:=by exact hd_j h0) (hn:=by exact hjl);refine run ?_;refine J.alloc rfl fun b3=>?_
 refine run ?_;refine J.regionX [(0, .q),(1, .q),(2, .q),(3, .q),(4, .q),(5, .q),(6, .q),(7, .q),(8, .q),(9, .e),(10, .q),(11, .q),(12, .q),(13, .q),(14, .q)] mixed (by kernel_rfl) ?_;refine run ?_
 refine J.callp rfl rfl (fun w' M => (RG.own' (a := da) w' M).elim fun _ k0 => by
  have := bsJd ⟨cap, ja, jn, jc, js, some ⟨bh, 0, none⟩, hn, hc, hs, da, dn, dc, ds⟩ h0.j.t w' k0 (hV.symm ▸ hvl.c2) (by dsimp only; omega)
  rwa [hV] at this) ?_
 obtain⟨sp,hsp⟩:=ex (S.spT v h0.j.t);have hsl:sp≤dn:=by rw[hsp,←hdv];exact S.spT_le v h0.j.t
 rw[←hsp];refine run ?_;have hzl:(ds.take sp++h0.j::ds.drop sp).length=dn+1:=by simp;omega
 refine J.regionR [.blk b3 (jdC h0.j) 36, .blk bw [.pointer (some ⟨bp,0,none⟩),pt (some ⟨bh,0,none⟩) (i.toNat*48),fv] 143, .blk bp (plC ⟨cap,ja,jn,jc,js,some ⟨bh,0,none⟩,hn,hc,hs,da,dn,dc,ds⟩) 41] [(0, .q),(1, .q),(2, .q),(3, .q),(4, .q),(5, .q),(6, .q),(7, .q),(8, .q),(9, .q),(10, .q),(11, .q),(12, .q),(13, .e),(14, .e),(15, .q),(16, .q),(17, .g)] mixed (by kernel_rfl) (by repeat(first|exact List.Sublist.refl _|refine List.Sublist.cons_cons _ ?_|refine List.Sublist.cons _ ?_)) ?_;refine run ?_;refine J.b1G jdC h0.j jdC_len' rfl rfl rfl fun bx=>?_
 refine run ?_
 refine J.callG rfl (fun w' M hO' => insJd da dn dc ds sp h0.j bx w' hO' (by omega) (by omega) (let ⟨_, _, k⟩ := M.get (GO.h (a := some ⟨bx, 0, none⟩) (some ⟨bx, 0, none⟩) 1 1 [h0.j]).same; gown_one (gown_e k).1) (fun he => by
  obtain ⟨S1, S2, h1, h2, h3⟩ := M.two (.gown jdC 45 36 da dn dc ds) (.gown jdC 45 36 (some ⟨bx, 0, none⟩) 1 1 [h0.j])
  exact h1 bx ((gown_e h2).2 _ he) ((gown_e h3).2 _ rfl))) fun a' c' => ?_
 rw[hzl];refine J.nc rfl rfl ?_;refine J.fl rfl rfl ?_;refine J.last ?_;refine run ?_;refine J.stG (f:=hdC) (a:=some ⟨bh,0,none⟩) (i:=i) (q:=HdA.zero) rfl rfl rfl ?_ (hv:=hdC_cells HdA.zero);refine run ?_;refine J.openA (hs.map hdE) i.toNat (e:=hdE h0) (by rw[List.getElem?_map,hh0];rfl) ?_;refine J.re (hdE h0) (.all [.irow .u8 h0.ba h0.bn h0.bs,jdE h0.j]) (fun _ _ h=>h) ?_;refine J.openA [.irow .u8 h0.ba h0.bn h0.bs,jdE h0.j] 1 rfl ?_;dsimp only[List.eraseIdx];refine J.re (.all (ds.map jdE)) (.all (((ds.take sp++h0.j::ds.drop sp).map jdE).eraseIdx sp)) (fun _ _ h=>by rw[mid_erase _ _ _ (by omega)];exact h) ?_;refine J.shutA ((ds.take sp++h0.j::ds.drop sp).map jdE) sp (jdE h0.j) (by rw[List.length_map];omega) ?_;refine J.re (.all (((ds.take sp++h0.j::ds.drop sp).map jdE).set sp (jdE h0.j))) (.all ((ds.take sp++h0.j::ds.drop sp).map jdE)) (fun _ _ h=>by rw[mid_set _ _ _ (by omega)]at h;exact h) ?_;refine J.nilR .u8 ?_;refine J.nilW .u8 32 ?_;refine J.pair (.irow .u8 none 0 []) (.wrow .u8 32 none 0 []) ?_;refine J.re (.all [.irow .u8 none 0 [], .wrow .u8 32 none 0 []]) (hdE HdA.zero) (fun _ _ h=>h) ?_;refine J.shutA (hs.map hdE) i.toNat (hdE HdA.zero) (by rw[List.length_map];omega) ?_;rw[←List.map_set];refine J.front (.all ((ds.take sp++h0.j::ds.drop sp).map jdE)) ?_;refine J.front (.all ((hs.set i.toNat HdA.zero).map hdE)) ?_;refine J.front (.all (js.map jbE)) ?_;refine J.front (.gown jdC 45 36 a' (dn+1) c' (ds.take sp++h0.j::ds.drop sp)) ?_;refine J.front (.gown hdC 48 46 (some ⟨bh,0,none⟩) hn hc (hs.set i.toNat HdA.zero)) ?_;refine J.front (.grow jbC 2 ja jn js) ?_;refine J.front (.blk bp [.int .i64 cap, .slice ja jn jc, .slice (some ⟨bh,0,none⟩) hn hc, .slice a' (dn+1) c'] 41) ?_;refine J.front (.blk bw [.pointer (some ⟨bp,0,none⟩),pt (some ⟨bh,0,none⟩) (i.toNat*48),fv] 143) ?_;have hfin:=hq.put (da':=a') (dc':=c') hh0 hz (by omega) (rfl:dn+1=dn+1);rw[←hsp]at hfin
 exact J.finM ((⟨cap,ja,jn,jc,js,some ⟨bh,0,none⟩,hn,hc,hs.set i.toNat HdA.zero,a',dn+1,c',ds.take sp++h0.j::ds.drop sp⟩:PlA),true) rfl (WkP.yes (.inr (.inr ⟨by omega,by omega,by omega⟩)) hfin) sb
instance:SInf prog 143 [(0,1),(1,1),(2,1)]:=⟨_,underlying143,by kernel_rfl,by kernel_rfl⟩
instance:Inf prog 143 3 24 [.pointer none, .pointer none, .nilFunc]:=⟨TI.of (v:= .agg #[.pointer none, .pointer none, .nilFunc]) (by kernel_rfl) rfl⟩
instance:Ents prog 72:=⟨.mk func72 (by kernel_rfl) rfl⟩
instance:Fld prog 143 2 2:=⟨_,_,1,underlying143,rfl,by kernel_rfl,by decide,rfl⟩
instance:Siz prog 60 1:=⟨by kernel_rfl⟩
instance:Ents prog 73:=⟨.mk func73 (by kernel_rfl) rfl⟩
instance:Ents prog 74:=⟨.mk func74 (by kernel_rfl) rfl⟩
instance:Sca prog 60:=⟨_,underlying60,rfl⟩
theorem poolStep{Z:Nat→Prop}{v:S.PlV}(p:PlA)(bp:Nat)(i:Int)(TK:TypeId)(w:World)(K0:Kst w TK)(hg:¬Z gK)(hS:Sep (.blk bp (plC p) 41::plF p) Z w)(hq:PlQ v p)(hvl:S.Vld v)(hi:0≤i∧i<p.hn):
  Calls prog 36 #[.pointer (some ⟨bp,0,none⟩), .int .i64 i] w (Gm w Z (fun q:PlA×Bool=> .bool q.2) (fun q=> .blk bp (plC q.1) 41::plF q.1) (WkP v i)):=by
 obtain⟨cap,ja,jn,jc,js,ha,hn,hc,hs,da,dn,dc,ds⟩:=p;dsimp only[plF]at hS hi⊢;have hhl:=hq.l.2.1;have hV:=hq.k.V;dsimp only at hhl;obtain⟨h0,hh0⟩:∃z,hs[i.toNat]? =some z:=⟨_,List.getElem?_eq_getElem (by omega)⟩
 have hst:=hq.stg hh0;have hvh:v.hs.length=hn:=by rw[←hV];exact(List.length_map _).trans hhl
 have h3:=S.hand_s (hvl.hand (i:=i.toNat) (by omega));have hs0:(S.stgP v i.toNat).s=h0.s:=congrArg S.HdV.s hst;refine J.enterM 44 hS func36 rfl rfl ?_;refine J.fact (p:=∃b,ha=some ⟨b,0,none⟩) (.gown hdC 48 46 ha hn hc hs) (fun _ _ h=>(gown_e h).1.some (by omega)) fun hha=>?_
 obtain⟨bh,rfl⟩:=hha;refine run ?_;refine J.box rfl rfl rfl fun bw=>?_
 refine run ?_;refine J.ldGf (a:=some ⟨bh,0,none⟩) (i:=i) (off:=0) rfl RG.own' ?_;refine run ?_;refine J.ife rfl (fun c1=>?_) (fun c1=>?_)
 ·refine run ?_;refine J.fn rfl rfl rfl ?_;refine run ?_;refine J.callMb (PlA.zero,false) (E:=wkE bw bp bh i (.func (.func 72) #[.pointer (some ⟨bw,0,none⟩)] #[]) ⟨cap,ja,jn,jc,js,some ⟨bh,0,none⟩,hn,hc,hs,da,dn,dc,ds⟩) (R:=[]) rfl rfl rfl (fun w' X M hx hs=>wkTake _ bw bp bh _ i w' hs hq rfl hi (by omega)) fun q hq'=>?_
  refine run ?_;exact J.finM q rfl hq' sb
 refine run ?_;refine J.ife rfl (fun c2=>?_) (fun c2=>?_)
 ·refine run ?_;refine J.fn rfl rfl rfl ?_;refine run ?_;refine J.callMb (PlA.zero,false) (E:=wkE bw bp bh i (.func (.func 73) #[.pointer (some ⟨bw,0,none⟩)] #[]) ⟨cap,ja,jn,jc,js,some ⟨bh,0,none⟩,hn,hc,hs,da,dn,dc,ds⟩) (R:=[]) rfl rfl rfl (fun w' X M hx hs=>wkJudge _ bw bp bh _ i TK w' (K0.pr M.pr hg) (fun h=>(hx _ h).elim hg (fun h=>absurd K0.lt (by omega))) hs hq rfl hi (by omega)) fun q hq'=>?_
  refine run ?_;exact J.finM q rfl hq' sb
 refine run ?_;refine J.fn rfl rfl rfl ?_;refine run ?_;refine J.callMb (PlA.zero,false) (E:=wkE bw bp bh i (.func (.func 74) #[.pointer (some ⟨bw,0,none⟩)] #[]) ⟨cap,ja,jn,jc,js,some ⟨bh,0,none⟩,hn,hc,hs,da,dn,dc,ds⟩) (R:=[]) rfl rfl rfl (fun w' X M hx hs=>wkPut _ bw bp bh _ i w' hs hq hvl rfl hi (by omega)) fun q hq'=>?_
 refine run ?_;exact J.finM q rfl hq' sb
instance:Ents prog 35:=⟨.mk func35 (by kernel_rfl) rfl⟩
instance:Ents prog 71:=⟨.mk func71 (by kernel_rfl) rfl⟩
instance:Ents prog 34:=⟨.mk func34 (by kernel_rfl) rfl⟩
instance:Ents prog 36:=⟨.mk func36 (by kernel_rfl) rfl⟩
instance:Ents prog 10:=⟨.mk func10 (by kernel_rfl) rfl⟩
def outP(n:Nat)(x:Int):Prop:=x<0∨(n:Int)≤x
instance(n:Nat)(x:Int):Decidable (outP n x):=by unfold outP;infer_instance
theorem poolRun1(p:PlA)(x:Int)(b:Nat)(T:TypeId)(w:World)(hB:Blk w b (plC p) T):
  Calls prog 35 #[.int .i64 x, .pointer (some ⟨b,0,none⟩)] w (Ret w fun v _=>v= .bool (decide (outP p.hn x))):=by
 refine J.enter 11 func35 rfl rfl ?_;refine run ?_;refine J.spd rfl rfl rfl (fun c1=>?_) (fun c1=>?_)
 ·refine run ?_;exact J.fin (congrArg _ (decide_eq_true (.inl c1)).symm)
 refine run ?_;refine J.ldO hB (fun h=>h) rfl ?_;refine run ?_;exact J.fin (congrArg _ (decide_eq_decide.2 ⟨fun h=> .inr h,fun h=>h.resolve_left c1⟩))
theorem idxRun1{S0:Nat→Prop}(p:PlA)(b:Nat)(T:TypeId)(a:Option Addr)(n c:Nat)(xs:List Int)(w:World)(hB:Blk w b (plC p) T)(D0:GRow inC 1 S0 w a n xs)(hn:n≤100000):
  Calls prog 71 #[.slice a n c, .func (.func 35) #[] #[.pointer (some ⟨b,0,none⟩)]] w (Gv w (fun r:Int=> .int .i64 r) (fun _=>[]) fun r=>0≤r↔∃x∈xs,outP p.hn x):=by
 have hl:=D0.len;refine J.enter 17 func71 rfl rfl ?_;refine run ?_;refine J.loopS (A:=Int) (fun p=>[(8, .int .i64 p)]) [4,5,9,10,11,12,13,14,15,16,17,18] (fun q=>(0≤q∧q≤n)∧∀x∈xs.take q.toNat,¬outP p.hn x) (fun q=>n - q.toNat) 0 (by kernel_rfl) ⟨by omega,fun i hi=>by simp at hi⟩ (fun q j hI=>?_);obtain⟨h1,hI⟩:=hI;refine run ?_;refine J.ifd rfl (fun c1=>?_) (fun c1=>?_)
 ·obtain⟨y,hy⟩:=D0.ex (i:=q) (by omega);refine run ?_;refine J.callvp rfl rfl rfl (fun w' M=>poolRun1 p y b T w' (hB.ext M.ext)) ?_;refine run ?_;refine J.ifd rfl (fun c2=>?_) (fun c2=>?_)
  ·refine run ?_;exact J.finG q rfl ⟨fun _=>⟨y,List.mem_of_getElem? hy,c2⟩,fun _=>by omega⟩ (List.nil_sublist _)
  refine run ?_;refine J.nextS (q+1) ⟨rfl,trivial⟩ (by kernel_rfl) ⟨by omega,fun x hx=>?_⟩ (by omega);rw[show(q+1).toNat=q.toNat+1 by omega,List.take_add_one,hy,Option.toList_some]at hx;rcases List.mem_append.1 hx with e|e
  ·exact hI x e
  rw[List.mem_singleton]at e;rw[e];exact c2
 refine run ?_;refine J.finG (-1) rfl ⟨fun h=>by omega,fun⟨x,hx,h⟩=>absurd h (hI x ?_)⟩ (List.nil_sublist _);rwa[List.take_of_length_le (by omega)]
theorem hasRun1{S0:Nat→Prop}(p:PlA)(b:Nat)(T:TypeId)(a:Option Addr)(n c:Nat)(xs:List Int)(w:World)(hB:Blk w b (plC p) T)(D0:GRow inC 1 S0 w a n xs)(hn:n≤100000):
  Calls prog 34 #[.slice a n c, .func (.func 35) #[] #[.pointer (some ⟨b,0,none⟩)]] w (Ret w fun v _=>v= .bool (decide (∃x∈xs,outP p.hn x))):=by
 refine J.enter 7 func34 rfl rfl ?_;refine run ?_;refine J.call rfl rfl (fun w' M=>idxRun1 p b T a n c xs w' (hB.ext M.ext) (D0.ext M.ext) hn) fun r hr=>?_
 refine run ?_;exact J.fin (congrArg _ (decide_eq_decide.2 hr))
theorem outP_no{v:S.PlV}{n:Nat}{xs:List Int}(h:v.hs.length=n):¬(∃x∈xs,outP n x)↔S.pkP v xs:=by
 unfold S.pkP outP;rw[h];constructor
 ·intro k x hx;exact⟨Classical.byContradiction fun c=>k ⟨x,hx, .inl (by omega)⟩,Classical.byContradiction fun c=>k ⟨x,hx, .inr (by omega)⟩⟩
 rintro k ⟨x,hx,c⟩;have:=k x hx;omega
@[reducible] def rnT(q:PlA×Nat×Int):Value:= .tuple #[.agg (plC q.1).toArray, .int .i64 (q.2.1:Nat), .int .i64 q.2.2]
@[reducible] def rnE(q:PlA×Nat×Int):List Ent:=plF q.1
def RnP(v:S.PlV)(xs:List Int)(q:PlA×Nat×Int):Prop:=PlQ (S.runV v xs) q.1∧q.2.1=S.runM v xs∧q.2.2=S.runE v xs
theorem PlQ.zero:PlQ S.PlV.zero PlA.zero:=⟨PlP.zero,Nat.le_refl _,rfl,rfl,rfl⟩
theorem RnP.no{v:S.PlV}{xs:List Int}{e:Int}(he:S.runE v xs=e)(h:e≠0):RnP v xs (PlA.zero,0,e):=by
 obtain⟨h1,h2⟩:=S.run_no (v:=v) (l:=xs) (by rw[he];exact h);exact⟨by rw[h1];exact PlQ.zero,h2.symm,he.symm⟩
theorem RnP.yes{v:S.PlV}{xs:List Int}{p:PlA}{n:Nat}(he:S.runE v xs=0)(h:PlQ (S.runP v (xs.map Int.toNat)) p)(hn:n=S.runN v (xs.map Int.toNat)):RnP v xs (p,n,0):=by
 obtain⟨h1,h2⟩:=S.run_yes he;exact⟨by rw[h1];exact h,by rw[h2];exact hn,he.symm⟩
theorem J.nilPf{S0:Nat→Prop}{w0:World}{L:List Ent}{X:World→Prop}(k:J S0 w0 (plF PlA.zero++L) X):J S0 w0 L X:=
 J.noA (J.noA (J.noA (J.nilG jdC 45 36 jdC_len' (J.nilG hdC 48 46 hdC_len' (J.add0 (.grow jbC 2 none 0 []) (fun w=>grow_i (GRow.nil jbC_len)) k)))))
structure RnA where
 (i n:Nat)(p:PlA)
theorem poolRun{S0 S1:Nat→Prop}(p:PlA)(a:Option Addr)(m c:Nat)(xs:List Int)(TK:TypeId)(w:World)(K0:Kst w TK)(R:PlR S0 w p)(D0:GRow inC 1 S1 w a m xs)(hm:m≤100000):
  Calls prog 10 #[.agg (plC p).toArray, .slice a m c] w (Gv w rnT rnE (RnP p.V xs)):=by
 have hl:=D0.len;have hhl:=R.hl;refine J.enter 39 func10 rfl rfl ?_;refine run ?_;refine J.box rfl rfl rfl fun b1=>?_
 refine J.alloc rfl fun b2=>?_
 refine run ?_;refine J.callp rfl rfl (fun w' M=>poolCheck p TK w' (K0.ext M.ext) (R.ext M.ext)) ?_;refine run ?_;refine J.ifn rfl (fun c1=>?_) (fun c1=>?_)
 ·have hv:¬S.vldP p.V:=fun h=>c1 (S.vldE_0 h);have he:=S.runE_8 (l:=xs) hv;rw[S.vldE_8 hv];refine run ?_;refine J.nilPf ?_;exact J.finG (PlA.zero,0,8) (by first|done|rfl|(rw[he];rfl)) (RnP.no he (by decide)) sb
 have hv:=S.vldE_ok.1 c1;refine run ?_;refine J.ifd rfl (fun c2=>?_) (fun c2=>?_)
 ·have he:=S.runE_4 (l:=xs) hv (by omega);refine run ?_;refine J.nilPf ?_;exact J.finG (PlA.zero,0,4) (by first|done|rfl|(rw[he];rfl)) (RnP.no he (by decide)) sb
 refine run ?_;refine J.fn rfl rfl rfl ?_;refine J.callp rfl rfl (fun w' M=>hasRun1 p b1 _ a m c xs w' (M.blk (.there .here)) (D0.ext M.ext) hm) ?_;refine run ?_;refine J.ifd rfl (fun c3=>?_) (fun c3=>?_)
 ·have he:=S.runE_2 (l:=xs) hv (by omega) (fun h=>(outP_no hhl).2 h c3);refine run ?_;refine J.nilPf ?_;exact J.finG (PlA.zero,0,2) (by first|done|rfl|(rw[he];rfl)) (RnP.no he (by decide)) sb
 have hpk:=(outP_no hhl).1 c3;have he:=S.runE_0 hv (by omega) hpk;refine run ?_;refine J.call rfl rfl (fun w' M=>poolTwin p w' (R.ext M.ext)) fun q hq=>?_
 refine run ?_;refine J.alloc rfl fun b3=>?_
 refine run ?_;refine J.fact (.gown jbC 2 44 q.ja q.jn q.jc q.js) (fun _ _ h=>(gown_e h).1.len) fun hq1=>?_
 refine J.fact (.gown hdC 48 46 q.ha q.hn q.hc q.hs) (fun _ _ h=>(gown_e h).1.len) fun hq2=>?_
 refine J.fact (.gown jdC 45 36 q.da q.dn q.dc q.ds) (fun _ _ h=>(gown_e h).1.len) fun hq3=>?_
 refine J.fact (.gown jbC 2 44 q.ja q.jn q.jc q.js) (fun _ _ h=>(gown_e h).1.capn) fun hq4=>?_
 have hQ:PlQ p.V q:=⟨hq,hq4,hq1,hq2,hq3⟩
 have hvl:=(S.vld_iff p.V).1 hv;refine J.re (.gown jbC 2 44 q.ja q.jn q.jc q.js) (.grow jbC 2 q.ja q.jn q.js) (fun _ _ h=>gown_grow h) ?_;refine J.drop (E:=[.blk b3 (plC q) 41, .grow jbC 2 q.ja q.jn q.js, .gown hdC 48 46 q.ha q.hn q.hc q.hs, .gown jdC 45 36 q.da q.dn q.dc q.ds, .all (q.js.map jbE), .all (q.hs.map hdE), .all (q.ds.map jdE), .blk b2 [.int .i64 0, .slice none 0 0, .slice none 0 0, .slice none 0 0] 41]) sb ?_;refine J.loop (A:=RnA) (fun r=>[(9, .int .i64 (r.n:Nat)),(30, .int .i64 (r.i:Nat))]) [11,31,32,33,34,35,36,37,38] (fun r=>[.blk b3 (plC r.p) 41, .grow jbC 2 r.p.ja r.p.jn r.p.js, .gown hdC 48 46 r.p.ha r.p.hn r.p.hc r.p.hs, .gown jdC 45 36 r.p.da r.p.dn r.p.dc r.p.ds, .all (r.p.js.map jbE), .all (r.p.hs.map hdE), .all (r.p.ds.map jdE), .blk b2 [.int .i64 0, .slice none 0 0, .slice none 0 0, .slice none 0 0] 41]) (fun r=>r.i≤m∧PlQ (S.runP p.V ((xs.take r.i).map Int.toNat)) r.p∧r.n=S.runN p.V ((xs.take r.i).map Int.toNat)∧r.n≤r.i) (fun r=>m - r.i) ⟨0,0,q⟩ (by kernel_rfl) ⟨Nat.zero_le _,hQ,rfl,Nat.le_refl _⟩ (fun r j hI=>?_);obtain⟨hi,hr,hn,hni⟩:=hI;have hrh:r.p.hn=p.hn:=by
  have e1:=S.run_hs ((xs.take r.i).map Int.toNat) p.V;rw[←hr.k.V]at e1;have e2:r.p.V.hs.length=r.p.hs.length:=List.length_map _;have e3:=hr.l.2.1;omega
 refine run ?_;refine J.ifd rfl (fun d1=>?_) (fun d1=>?_)
 ·obtain⟨x,hx⟩:=D0.ex (i:=(r.i:Nat)) (by omega);have hx':xs[r.i]? =some x:=hx;have hxb:=hpk x (List.mem_of_getElem? hx');have hvr:S.Vld (S.runP p.V ((xs.take r.i).map Int.toNat)):=hvl.run fun k hk=>by
   obtain⟨y,hy,rfl⟩:=List.mem_map.1 hk;have:=hpk y (List.mem_of_mem_take hy);omega
  have et:(xs.take (r.i+1)).map Int.toNat=(xs.take r.i).map Int.toNat++[x.toNat]:=by
   rw[List.take_add_one,hx',Option.toList_some,List.map_append];rfl
  refine run ?_;refine J.callM (PlA.zero,false) (E:= .blk b3 (plC r.p) 41::plF r.p) (R:=[.blk b2 [.int .i64 0, .slice none 0 0, .slice none 0 0, .slice none 0 0] 41]) rfl rfl (fun w' X M hX hs=>poolStep r.p b3 x TK w' (K0.ext M.ext) (fun h=>(hX _ h).elim (fun h=>h) (fun h=>absurd K0.lt (by omega))) hs hr hvr (by omega)) fun s hs=>?_
  obtain⟨sp,sb⟩:=s;obtain⟨hs1,hs2⟩:=hs;dsimp only at hs1 hs2⊢;subst hs2;have e1:S.runP p.V ((xs.take (r.i+1)).map Int.toNat)=S.stepP (S.runP p.V ((xs.take r.i).map Int.toNat)) x.toNat:=by rw[et,S.runP_snoc]
  have e2:S.runN p.V ((xs.take (r.i+1)).map Int.toNat)=r.n+S.stepN (S.runP p.V ((xs.take r.i).map Int.toNat)) x.toNat:=by rw[et,S.runN_snoc,hn]
  refine run ?_;refine J.ifd rfl (fun d2=>?_) (fun d2=>?_)
  ·refine run ?_;refine J.next ⟨r.i+1,r.n+1,sp⟩ ⟨rfl,rfl,trivial⟩ (by kernel_rfl) ⟨by dsimp only;omega,by dsimp only;rw[e1];exact hs1,?_,by dsimp only;omega⟩ (by dsimp only;omega);dsimp only;rw[e2];unfold S.stepN;rw[if_pos d2]
  refine run ?_;refine J.next ⟨r.i+1,r.n,sp⟩ ⟨rfl,rfl,trivial⟩ (by kernel_rfl) ⟨by dsimp only;omega,by dsimp only;rw[e1];exact hs1,?_,by dsimp only;omega⟩ (by dsimp only;omega);dsimp only;rw[e2];unfold S.stepN;rw[if_neg d2];rfl
 rw[List.take_of_length_le (by omega)]at hr hn;refine run ?_;exact J.finG (r.p,r.n,0) rfl (RnP.yes he hr hn) sb
theorem poolStep1{S0:Nat→Prop}(p:PlA)(i:Int)(TK:TypeId)(w:World)(K0:Kst w TK)(R:PlR S0 w p):
  Calls prog 6 #[.agg (plC p).toArray, .int .i64 i] w (Gv w (fun q:PlA×Nat×Int=> .tuple #[.agg (plC q.1).toArray, .bool (decide ((0:Int)<((q.2.1:Nat):Int))), .int .i64 q.2.2]) rnE (RnP p.V [i])):=by
 refine J.enter 20 func6 rfl rfl ?_;refine run ?_;refine J.box rfl rfl rfl fun b1=>?_
 refine J.alloc rfl fun b2=>?_
 refine run ?_;refine J.b1V inC i (fun _=>rfl) rfl rfl rfl rfl fun b4=>?_
 refine run ?_;refine J.call rfl rfl (fun w' M=>(RG.own' (a:=some ⟨b4,0,none⟩) w' M).elim fun _ k0=>poolRun p (some ⟨b4,0,none⟩) 1 1 [i] TK w' (K0.ext M.ext) (R.ext M.ext) k0 (by omega)) fun q hq=>?_
 refine run ?_;refine J.alloc rfl fun b5=>?_
 refine run ?_;exact J.finG q rfl hq sb
theorem PlR.ownF{S0:Nat→Prop}{w0:World}{L:List Ent}{p:PlA}{v:S.PlV}{F2:Option Addr→Nat→Nat→List HdA→List Ent}{F3:Option Addr→Nat→Nat→List JdA→List Ent}{F4 F5 F6:Ent→List Ent}
  [R1:RRG L p.ja jbC 2 p.jn p.js][R2:GO L p.ha hdC 48 46 p.hn p.hc p.hs F2][R3:GO L p.da jdC 45 36 p.dn p.dc p.ds F3][R4:RE L (.all (p.js.map jbE)) F4][R5:RE L (.all (p.hs.map hdE)) F5][R6:RE L (.all (p.ds.map jdE)) F6](hp:PlQ v p)(w:World)(M:Mem S0 w0 L w):PlR (fun _=>True) w p:=by
 obtain⟨A,_,a⟩:=M.get R1.h;obtain⟨B,_,b⟩:=M.get (R2.h p.ha p.hn p.hc p.hs).same;obtain⟨C,_,c⟩:=M.get (R3.h p.da p.dn p.dc p.ds).same;obtain⟨D,_,d⟩:=M.get (R4.h (.all (p.js.map jbE))).same;obtain⟨E,_,e⟩:=M.get (R5.h (.all (p.hs.map hdE))).same;obtain⟨F,_,f⟩:=M.get (R6.h (.all (p.ds.map jdE))).same;have a:=grow_e a;have b:=(gown_e b).1;have c:=(gown_e c).1;refine⟨a.weaken fun _ _ _=>trivial,b.row.weaken fun _ _ _=>trivial,c.row.weaken fun _ _ _=>trivial,fun j hj=>?_,fun j hj=>?_,fun j hj=>?_,hp.c,b.capn,c.capn,hp.k.n⟩
 ·obtain⟨S',_,k⟩:=sep_mem (List.mem_map.2 ⟨j,hj,rfl⟩) (all_e d);exact(jbR_e (hp.k.j j hj) k).weak fun _ _=>trivial
 ·obtain⟨S',_,k⟩:=sep_mem (List.mem_map.2 ⟨j,hj,rfl⟩) (all_e e);exact(hdR_e (hp.k.h j hj) k).weak fun _ _=>trivial
 obtain⟨S',_,k⟩:=sep_mem (List.mem_map.2 ⟨j,hj,rfl⟩) (all_e f);exact(jdR_e (hp.k.d j hj) k).weak fun _ _=>trivial
end W
namespace G
open Go.RowKit
section
variable{S0:Nat→Prop}{w0:World}{L:List Ent}{P:Program}{ops:Array Oper}{K:List Value→World→Prop}{rest:List (Oper×Kd)}{l:List Value}{m:Md}{d:Tmp}{ty t e:TypeId}{pos:String}{af:Array Edge}{kd:Kd}{α:Type}
theorem J.bnG{n sz by_:Nat}{parts:Array (Nat×Operand)}{zs vs:List Value}(f:α→List Value)(qs:List α)(hf:∀x,(f x).length=sz)[U:Und P t (.slice e)][I:Inf P e sz by_ zs]{l':Nat→List Value}(hk:okE m kd=true)(hv:(parts.toList.map Prod.snd).map (ev l)=vs)(hc:vs.flatMap (·.cells.toList)=qs.flatMap f)(hcs:∀v∈vs,v.cells.size=sz)
  (kk:∀b,J S0 w0 (.gown f sz e (some ⟨b,0,none⟩) n n qs::L) (RY S0 w0 m P ops K rest (l' b)))(hp:parts.toList=enumV 0 (parts.toList.map Prod.snd):=by rfl)(hl2:vs.length=n:=by rfl)(hq:qs.length=n:=by rfl)(hz:0<sz:=by decide)(hn:Nat.ble n 1000=true:=by rfl)(hz2:Nat.ble sz 1000=true:=by rfl)(h0:Nat.ble 1 n=true:=by rfl)
  (hl:∀b,l.set d (.slice (some ⟨b,0,none⟩) n n)=l' b:=by intro b;dsimp only[List.set]):J S0 w0 L (RY S0 w0 m P ops K ((⟨some d, .buildSlice t n parts,ty,pos,af,none⟩,kd)::rest) l):=
 J.eff hk fun w M K' hK => RS.buildSlice (vs := vs) (cs := qs.flatMap f) U.h I.h hz hn hz2 hp hv hl2 hc hcs h0 fun b w' e1 s1 x1 B => RS.nil (hK _ w' x1 (by
  rw [hl]
  exact kk b w' (M.new x1 (gown_blk (lst := qs) ⟨by subst e1; exact Nat.le_refl _, B⟩ hf rfl hq (by have := Nat.le_of_ble_eq_true hn; omega)))))
end
end G
namespace S
open G
theorem Vld.new{n k:Int}(h:newE n k=0):Vld (newV n k):=by
 unfold newV;rw[if_pos h];unfold newE at h;split at h
 ·cases h
 ·have hk:∀x∈List.replicate k.toNat HdV.zero,x=HdV.zero:=fun x hx=>(List.mem_replicate.1 hx).2;have ht:(List.replicate k.toNat HdV.zero).flatMap handL=[]:=List.flatMap_eq_nil_iff.2 fun x hx=>by rw[hk x hx];rfl
  have et:PlV.tk ⟨n,[],List.replicate k.toNat HdV.zero,[]⟩=[]:=by unfold PlV.tk;rw[ht];rfl
  refine⟨⟨by show 1≤n;omega,by show n≤8;omega,by show((0:Nat):Int)≤n;omega,?_,?_,Nat.zero_le _⟩,fun _ h=>(by cases h), .nil,fun x hx=>?_,fun _ h=>(by cases h), .nil,by rw[et];exact .nil,fun x hx=>by rw[et]at hx;cases hx⟩
  ·show 1≤(List.replicate _ _).length;rw[List.length_replicate];omega
  ·show(List.replicate _ _).length≤3;rw[List.length_replicate];omega
  ·rw[hk x hx];exact .inl ⟨rfl,⟨rfl,rfl⟩,judZ_zero⟩
theorem putE_in{v:PlV}{t:Int}(h:putE v t=0):vldP v∧TickP t∧¬overT v t∧¬(v.js.length:Int)=v.cap:=by
 unfold putE at h;split at h
 ·cases h
 ·split at h
  ·cases h
  ·split at h
   ·cases h
   ·split at h
    ·cases h
    ·exact⟨Classical.byContradiction fun k=>by contradiction,Classical.byContradiction fun k=>by contradiction,by assumption,by assumption⟩
theorem Vld.add{v:PlV}{t:Int}{b:List Int}(h:putE v t=0):Vld (addJ v t b):=by
 obtain⟨hv,h1,h2,h3⟩:=putE_in h;have hv:=(vld_iff v).1 hv;have hlt:∀x∈v.tk++v.jT,x<t:=fun x hx=>Classical.byContradiction fun k=>h2 ⟨x,hx,by omega⟩;have ej:PlV.jT (addJ v t b)=v.jT++[t]:=by unfold PlV.jT addJ;rw[List.map_append];rfl
 refine⟨?_,hv.d,hv.ds,hv.h,fun x hx=>?_,?_,hv.nd,fun x hx y hy=>?_⟩
 ·obtain⟨c1,c2,c3,c4⟩:=hv.c;refine⟨c1,c2,?_,c4⟩;show(((v.js++[(⟨t,b⟩:JbV)]).length:Nat):Int)≤v.cap;rw[List.length_append,List.length_singleton];omega
 ·rcases List.mem_append.1 hx with k|k
  ·exact hv.j x k
  ·rw[List.mem_singleton]at k;rw[k];exact h1
 ·rw[ej,List.pairwise_append];refine⟨hv.js,List.pairwise_singleton _ _,fun a ha y hy=>?_⟩;rw[List.mem_singleton]at hy;rw[hy];exact hlt a (List.mem_append_right _ ha)
 ·rw[ej]at hy;rcases List.mem_append.1 hy with k|k
  ·exact hv.lt x hx y k
  ·rw[List.mem_singleton]at k;rw[k];exact hlt x (List.mem_append_left _ hx)
def exQ0:PlV:=⟨3,[],[HdV.zero,HdV.zero],[]⟩
def exQ1:PlV:=⟨3,[⟨4,[]⟩],[HdV.zero,HdV.zero],[]⟩
def exQ2:PlV:=⟨3,[],[HdV.zero,⟨1,4,[],JdV.zero⟩],[]⟩
def exQ3:PlV:=⟨3,[],[HdV.zero,⟨2,0,[],ofJ 4 []⟩],[]⟩
def exQ4:PlV:=⟨3,[],[HdV.zero,HdV.zero],[ofJ 4 []]⟩
theorem newE_ok{n k:Int}(h:1≤n∧n≤8∧1≤k∧k≤3):newE n k=0:=by unfold newE;rw[if_neg (by omega)]
theorem exq_new:newE 3 2=0∧newV 3 2=exQ0:=by
 have h:newE 3 2=0:=newE_ok (by decide);exact⟨h,by unfold newV;rw[if_pos h];rfl⟩
theorem exq_put:putE exQ0 4=0∧putV exQ0 4 []=exQ1:=by
 have hv:vldP exQ0:=(vld_iff _).2 (by have:=Vld.new exq_new.1;rwa[exq_new.2]at this)
 have h : putE exQ0 4 = 0 := putE_0 hv (by decide) (fun ⟨x, hx, _⟩ => by
  have e : exQ0.tk ++ exQ0.jT = [] := rfl
  rw [e] at hx
  cases hx) (by decide)
 exact⟨h,(put_yes h).trans rfl⟩
theorem exq1_vld:Vld exQ1:=by
 have:=Vld.add (b:=[]) exq_put.1;exact this
theorem step_yes{v:PlV}{i:Nat}(h:canP v i):stepP v i=didP v i∧stepN v i=1:=⟨if_pos h,if_pos h⟩
theorem step_no{v:PlV}{i:Nat}(h:¬canP v i):stepP v i=v∧stepN v i=0:=⟨if_neg h,if_neg h⟩
theorem exq_s1:stepP exQ1 1=exQ2∧stepN exQ1 1=1:=by
 have h:=step_yes (v:=exQ1) (i:=1) (.inl ⟨rfl,by decide⟩);refine⟨h.1.trans ?_,h.2⟩;unfold didP;rw[if_pos (show(stgP exQ1 1).s=0 from rfl)];rfl
theorem exq_s2:stepP exQ2 1=exQ3∧stepN exQ2 1=1:=by
 have h:=step_yes (v:=exQ2) (i:=1) (.inr (.inl rfl));refine⟨h.1.trans ?_,h.2⟩;unfold didP;rw[if_neg (by decide),if_pos (show(stgP exQ2 1).s=1 from rfl)];rfl
theorem exq_s3:stepP exQ3 1=exQ4∧stepN exQ3 1=1:=by
 have h:=step_yes (v:=exQ3) (i:=1) (.inr (.inr ⟨by decide,by decide,by decide⟩));refine⟨h.1.trans ?_,h.2⟩;unfold didP;rw[if_neg (by decide),if_neg (by decide)];rfl
theorem exq_s4 : stepP exQ4 1 = exQ4 ∧ stepN exQ4 1 = 0 := step_no (by
 rintro (⟨_, h⟩ | h | ⟨h, _⟩)
 ·exact absurd h (by decide)
 ·exact absurd h (by decide)
 ·exact h rfl)
theorem exq_run:runE exQ1 [1,1,1,1]=0∧runV exQ1 [1,1,1,1]=exQ4∧runM exQ1 [1,1,1,1]=3:=by
 have h : runE exQ1 [1, 1, 1, 1] = 0 := runE_0 ((vld_iff _).2 exq1_vld) (by decide) (fun x hx => by
  have e : x = 1 := by simpa using hx
  rw [e]
  decide)
 obtain⟨h1,h2⟩:=run_yes h;refine⟨h,h1.trans ?_,h2.trans ?_⟩
 ·show runP exQ1 [1,1,1,1]=_;unfold runP;rw[exq_s1.1];unfold runP;rw[exq_s2.1];unfold runP;rw[exq_s3.1];unfold runP;rw[exq_s4.1];rfl
 ·show runN exQ1 [1,1,1,1]=_;unfold runN;rw[exq_s1.1,exq_s1.2];unfold runN;rw[exq_s2.1,exq_s2.2];unfold runN;rw[exq_s3.1,exq_s3.2];unfold runN;rw[exq_s4.1,exq_s4.2];rfl
theorem exq_vld4:Vld exQ4:=by
 have h:=exq_run;have k:=runE_in h.1
 have := exq1_vld.run (l := [1, 1, 1, 1]) (fun i hi => by
  have e : i = 1 := by simpa using hi
  rw [e]
  decide)
 rw[(run_yes h.1).1]at h;rwa[show runP exQ1 [1,1,1,1]=exQ4 from h.2.1]at this
theorem exq_take:takeE exQ4 4=0∧takeJ exQ4 4=ofJ 4 []:=by
 have hf:=first_sp exq_vld4.c2 (n:=4) (i:=0) (by decide) rfl;have h:takeE exQ4 4=0:=takeE_0 ((vld_iff _).2 exq_vld4) hf.1;refine⟨h,(take_yes h).2.trans ?_⟩;rw[hf.2];rfl
section
end
end S
namespace W
open Go.RowKit G
set_option maxRecDepth 20000
set_option maxHeartbeats 8000000
attribute [local irreducible] RS RX RY Code.wp bodyPost J Ent.blk Ent.irow Ent.iown Ent.wrow Ent.wown Ent.grow Ent.gown Ent.all Ent.emp
instance:Ents prog 9:=⟨.mk func9 (by kernel_rfl) rfl⟩
instance:Ents prog 5:=⟨.mk func5 (by kernel_rfl) rfl⟩
instance:Ents prog 7:=⟨.mk func7 (by kernel_rfl) rfl⟩
theorem intC1(x:Int):∀v∈[Value.int .i64 x, .int .i64 x, .int .i64 x, .int .i64 x],v.cells.size=1:=fun v hv=>by
 simp only[List.mem_cons,List.not_mem_nil,or_false,or_self]at hv;subst hv;rfl
theorem PlQ.jn{v:S.PlV}{p:PlA}(h:PlQ v p):v.js.length=p.jn:=by
 rw[←h.k.V];exact(List.length_map _).trans h.l.1
theorem PlQ.dn{v:S.PlV}{p:PlA}(h:PlQ v p):v.ds.length=p.dn:=by
 rw[←h.k.V];exact(List.length_map _).trans h.l.2.2
theorem plAlive(TK:TypeId)(w:World)(K0:Kst w TK):
  Calls prog 11 #[] w (Ret w fun v _=>v= .bool true):=by
 refine J.enter 74 func11 rfl rfl ?_;refine run ?_;refine J.call rfl rfl (fun w' M=>poolNew 3 2 w') fun u1 hu1=>?_
 obtain⟨u1,e1⟩:=u1;obtain⟨hu1,he1⟩:=hu1;dsimp only at hu1 he1⊢;subst he1;rw[S.exq_new.1];rw[S.exq_new.2]at hu1;refine run ?_;refine J.alloc rfl fun b1=>?_
 refine run ?_
 refine J.call rfl rfl (fun w' M => by
  have := poolPut u1 ⟨4, none, 0, 0, []⟩ TK w' (K0.ext M.ext) (PlR.own hu1 w' M) ⟨⟨Nat.le_refl _, Nat.zero_le _⟩, (IRow.nil : IRow .u8 no w' none 0 [])⟩
  rwa [hu1.V] at this) fun u2 hu2 => ?_
 obtain⟨u2,e2⟩:=u2;obtain⟨hu2,he2⟩:=hu2;dsimp only at hu2 he2⊢;subst he2;rw[S.exq_put.1];rw[S.exq_put.2]at hu2;refine run ?_;refine J.alloc rfl fun b2=>?_
 refine run ?_;refine J.bnG inC [1,1,1,1] (fun _=>rfl) rfl rfl rfl (intC1 1) fun b3=>?_
 refine run ?_
 refine J.call rfl rfl (fun w' M => (RG.own' (a := some ⟨b3, 0, none⟩) w' M).elim fun _ k0 => by
  have := poolRun u2 (some ⟨b3, 0, none⟩) 4 4 [1, 1, 1, 1] TK w' (K0.ext M.ext) (PlR.own hu2 w' M) k0 (by omega)
  rwa [hu2.V] at this) fun u3 hu3 => ?_
 obtain⟨u3,n3,e3⟩:=u3;obtain⟨hu3,hn3,he3⟩:=hu3;dsimp only at hu3 hn3 he3⊢;subst hn3 he3;rw[S.exq_run.1,S.exq_run.2.2];rw[S.exq_run.2.1]at hu3;refine run ?_;refine J.alloc rfl fun b4=>?_
 refine run ?_
 refine J.call rfl rfl (fun w' M => by
  have := poolTake u3 4 TK w' (K0.ext M.ext) (PlR.ownF hu3 w' M)
  rwa [hu3.k.V] at this) fun u4 hu4 => ?_
 obtain⟨u4,z4,e4⟩:=u4;obtain⟨hp4,hj4,hk4,he4⟩:=hu4;dsimp only at hp4 hj4 hk4 he4⊢;subst he4;rw[S.exq_take.1];rw[S.exq_take.2]at hj4;refine run ?_;refine J.alloc rfl fun b5=>?_
 refine J.alloc rfl fun b6=>?_
 have g1:(0:Nat)=u3.jn:=hu3.jn;have g2:(1:Nat)=u3.dn:=hu3.dn;have g3:z4.t=4:=congrArg S.JdV.t hj4;have g4:z4.v=2:=congrArg S.JdV.v hj4;refine run ?_;refine J.spe rfl rfl rfl (fun _=>?_) (fun c=>absurd (by rw[←g1];rfl) c);refine run ?_;refine J.spe rfl rfl rfl (fun _=>?_) (fun c=>absurd (by rw[←g2];rfl) c);refine run ?_;refine J.spe rfl rfl rfl (fun _=>?_) (fun c=>absurd g3 c);refine run ?_;exact J.fin (congrArg _ (by rw[g4];rfl))
end W
namespace S
open G
set_option maxRecDepth 100000
instance(v:PlV):Decidable (C1 v):=by unfold C1;infer_instance
def pnZ:List Int:=List.replicate 32 0
def pnX:List Int:=1::List.replicate 31 0
def pnBad:JdV:=⟨0,2,OpV.zero,pnX⟩
def pnFine:JdV:=⟨1,4,OpV.zero,pnZ⟩
def pnCom:JdV:=⟨0,1,OpV.zero,pnZ⟩
def pnB:Nat→PlV
 |0=>PlV.zero
 |1=>⟨9,[],[HdV.zero],[]⟩
 |2=>⟨1,[],[],[]⟩
 |3=>⟨1,[],List.replicate 4 HdV.zero,[]⟩
 |4=>⟨1,List.replicate 2 JbV.zero,[HdV.zero],[]⟩
 |5=>⟨1,[⟨-1,[]⟩],[HdV.zero],[]⟩
 |6=>⟨1,[],[HdV.zero],[pnBad]⟩
 |7=>⟨1,[],[HdV.zero],[JdV.zero]⟩
 |8=>⟨1,[],[HdV.zero],[pnCom]⟩
 |9=>⟨1,[],[⟨3,0,[],JdV.zero⟩],[]⟩
 |10=>⟨1,[],[⟨0,1,[],JdV.zero⟩],[]⟩
 |11=>⟨1,[],[⟨1,0,[],pnFine⟩],[]⟩
 |12=>⟨1,[],[⟨1,1,[],JdV.zero⟩],[pnFine]⟩
 |13=>⟨1,[⟨1,[]⟩],[HdV.zero],[pnFine]⟩
 |14=>⟨2,[⟨2,[]⟩,⟨2,[]⟩],[HdV.zero],[]⟩
 |_=>⟨1,[],[HdV.zero],[pnFine,pnFine]⟩
theorem pn_bad{i:Nat}(h:i<16):¬vldP (pnB i):=by
 intro hv;have V:=(vld_iff _).1 hv
 match i,h,V with
 |0,_,V=>exact absurd V.c.1 (by decide)
 |1,_,V=>exact absurd V.c.2.1 (by decide)
 |2,_,V=>exact absurd V.c.2.2.2.1 (by decide)
 |3,_,V=>exact absurd V.c.2.2.2.2.1 (by decide)
 |4,_,V=>exact absurd V.c.2.2.1 (by decide)
 |5,_,V=>exact absurd (V.j ⟨-1,[]⟩ (List.mem_singleton.2 rfl)) (by decide)
 |6,_,V=>
  have h1:=(find_n (j:=pnBad) (by decide) (.inl rfl)).1 (V.d pnBad (List.mem_singleton.2 rfl));exact absurd h1.2 (by decide)
 |7,_,V=>
  have h1:=(find_0 (j:=JdV.zero) (by decide) rfl).1 (V.d JdV.zero (List.mem_singleton.2 rfl));exact absurd h1.1 (by decide+kernel)
 |8,_,V=>exact absurd (V.d pnCom (List.mem_singleton.2 rfl)) (find_x (by decide) (by decide))
 |9,_,V=>
  rcases V.h ⟨3,0,[],JdV.zero⟩ (List.mem_singleton.2 rfl)with h|h|h
  ·exact absurd h.1 (by decide)
  ·exact absurd h.1 (by decide)
  ·exact absurd h.1 (by decide)
 |10,_,V=>
  rcases V.h ⟨0,1,[],JdV.zero⟩ (List.mem_singleton.2 rfl)with h|h|h
  ·exact absurd h.2.1.1 (by decide)
  ·exact absurd h.1 (by decide)
  ·exact absurd h.1 (by decide)
 |11,_,V=>
  rcases V.h ⟨1,0,[],pnFine⟩ (List.mem_singleton.2 rfl)with h|h|h
  ·exact absurd h.1 (by decide)
  ·exact absurd h.2.1.2.1 (by decide)
  ·exact absurd h.1 (by decide)
 |12,_,V=>exact absurd V.nd (by decide)
 |13,_,V=>exact absurd (V.lt 1 (by decide) 1 (by decide)) (by decide)
 |14,_,V=>exact absurd V.js (by decide)
 |15,_,V=>exact absurd V.ds (by decide)
 |n+16,h,_=>omega
theorem pn_new:newE 0 1=2∧newE 9 1=2∧newE 1 0=2∧newE 1 4=2:=by
 refine⟨?_,?_,?_,?_⟩<;> · unfold newE;exact if_pos (by decide)
/-! a pool whose hand has judged -/
def pnH:HdV:=⟨2,0,[],pnFine⟩
def pnP:PlV:=⟨1,[⟨1000000000,[]⟩],[pnH],[]⟩
theorem pn_fine:FindP pnFine:=(find_n (j:=pnFine) (by decide) (.inr (.inr rfl))).2 noO_zero
theorem pn_hand:handP pnH:= .inr (.inr ⟨rfl,⟨rfl,rfl⟩,pn_fine⟩)
theorem pn_vld:Vld pnP where
 c:=by decide
 d:=fun x hx=>by cases hx
 ds:=List.Pairwise.nil
 h:=fun x hx=>by
  obtain rfl:=List.mem_singleton.1 hx;exact pn_hand
 j:=fun x hx=>by
  obtain rfl:=List.mem_singleton.1 hx;decide
 js:=by decide
 nd:=by decide
 lt:=by decide
theorem pn_vldP:vldP pnP:=(vld_iff _).2 pn_vld
theorem pn_put1:putE pnP 1000000001=2:=putE_2 pn_vldP (by decide)
theorem pn_put2:putE pnP 1000000000=32:=putE_32 pn_vldP (by decide) ⟨1000000000,by decide,Int.le_refl _⟩
theorem pn_take:takeE pnP 1=38:=takeE_38 pn_vldP fun⟨d,hd,_⟩=>by cases hd
theorem pn_many{l:List Int}(h:300<l.length):runE pnP l=4:=runE_4 pn_vldP h
theorem pn_out:runE pnP [0, -1]=2:=runE_2 pn_vldP (by decide) fun h=>absurd (h (-1) (by decide)) (by decide)
def pnG:PlV:=⟨1,[JbV.zero],[HdV.zero],[]⟩
theorem pn_vldG : vldP pnG := (vld_iff _).2 {
 c := by decide
 d := fun x hx => by cases hx
 ds := List.Pairwise.nil
 h := fun x hx => by
  obtain rfl := List.mem_singleton.1 hx
  exact .inl ⟨rfl, ⟨rfl, rfl⟩, noO_zero, rfl, rfl⟩
 j := fun x hx => by
  obtain rfl := List.mem_singleton.1 hx
  decide
 js := by decide
 nd := by decide
 lt := by decide }
theorem pn_busy : putE pnG 1 = 38 := putE_38 pn_vldG (by decide) (fun ⟨x, hx, h⟩ => by
 have e : pnG.tk ++ pnG.jT = [0] := rfl
 rw [e] at hx
 obtain rfl := List.mem_singleton.1 hx
 exact absurd h (by decide)) rfl
/-! a run -/
def pnP1:PlV:=⟨1,[⟨1000000000,[]⟩],[HdV.zero],[pnFine]⟩
def pnP2:PlV:=⟨1,[],[⟨1,1000000000,[],JdV.zero⟩],[pnFine]⟩
def pnP3:PlV:=⟨1,[],[⟨2,0,[],ofJ 1000000000 []⟩],[pnFine]⟩
theorem pn_s1:stepP pnP 0=pnP1∧stepN pnP 0=1:=by
 have h:=step_yes (v:=pnP) (i:=0) (.inr (.inr ⟨by decide,by decide,by decide⟩));refine⟨h.1.trans ?_,h.2⟩;unfold didP;rw[if_neg (by decide),if_neg (by decide)];rfl
theorem pn_s2:stepP pnP1 0=pnP2∧stepN pnP1 0=1:=by
 have h:=step_yes (v:=pnP1) (i:=0) (.inl ⟨rfl,by decide⟩);refine⟨h.1.trans ?_,h.2⟩;unfold didP;rw[if_pos (show(stgP pnP1 0).s=0 from rfl)];rfl
theorem pn_s3:stepP pnP2 0=pnP3∧stepN pnP2 0=1:=by
 have h:=step_yes (v:=pnP2) (i:=0) (.inr (.inl rfl));refine⟨h.1.trans ?_,h.2⟩;unfold didP;rw[if_neg (by decide),if_pos (show(stgP pnP2 0).s=1 from rfl)];rfl
theorem pn_s4:(stepP pnP3 0).js=[]∧(stepP pnP3 0).hs=[HdV.zero]∧(stepP pnP3 0).ds.length=2∧stepN pnP3 0=1:=by
 have h:=step_yes (v:=pnP3) (i:=0) (.inr (.inr ⟨by show(2:Int)≠0;decide,by show(2:Int)≠1;decide,by decide⟩));have e:didP pnP3 0=⟨1,[],[HdV.zero],insL [pnFine] (spT pnP3 1000000000) (ofJ 1000000000 [])⟩:=by
  unfold didP;rw[if_neg (by show ¬(2:Int)=0;decide),if_neg (by show ¬(2:Int)=1;decide)];rfl
 rw[h.1,e];refine⟨rfl,rfl,?_,h.2⟩;exact(insL_perm (ds:=[pnFine]) (spT pnP3 1000000000) (ofJ 1000000000 [])).length_eq
theorem pn_idle{v:PlV}(h1:v.js=[])(h2:v.hs=[HdV.zero]):∀k,runP v (List.replicate k 0)=v∧runN v (List.replicate k 0)=0
 |0=>⟨rfl,rfl⟩
 |k+1=>by
  have hs:(stgP v 0).s=0:=by
   unfold stgP;rw[h2];rfl
  have h := step_no (v := v) (i := 0) (by
   rintro (⟨_, h⟩ | h | ⟨h, _⟩)
   ·rw [h1] at h
    exact absurd h (by decide)
   ·rw [hs] at h
    exact absurd h (by decide)
   ·exact h hs)
  obtain⟨i1,i2⟩:=pn_idle h1 h2 k;rw[List.replicate_succ];refine⟨?_,?_⟩
  ·show runP (stepP v 0) (List.replicate k 0)=v;rw[h.1,i1]
  ·show stepN v 0+runN (stepP v 0) (List.replicate k 0)=0;rw[h.1,h.2,i2]
theorem pn_four{l:List Nat}:runP pnP (0::0::0::0::l)=runP (stepP pnP3 0) l∧runN pnP (0::0::0::0::l)=1+(1+(1+(stepN pnP3 0+runN (stepP pnP3 0) l))):=by
 rw[runP,runN,pn_s1.1,pn_s1.2,runP,runN,pn_s2.1,pn_s2.2,runP,runN,pn_s3.1,pn_s3.2,runP,runN];exact⟨rfl,rfl⟩
theorem pn_run{l:List Int}(hl:l=List.replicate 300 0):runE pnP l=0∧(runV pnP l).ds.length=2∧runM pnP l=4:=by
 subst hl;have e:runE pnP (List.replicate 300 0)=0:=runE_0 pn_vldP (by rw[List.length_replicate];decide) fun x hx=>by
  rw[List.eq_of_mem_replicate hx];decide
 obtain⟨r1,r2⟩:=run_yes e;have em:(List.replicate 300 (0:Int)).map Int.toNat=0::0::0::0::List.replicate 296 0:=by
  rw[List.map_replicate];rfl
 rw[em]at r1 r2;obtain⟨q1,q2,q3,q4⟩:=pn_s4;obtain⟨i1,i2⟩:=pn_idle q1 q2 296;refine⟨e,?_,?_⟩
 ·rw[r1,pn_four.1,i1,q3]
 ·rw[r2,pn_four.2,i2,q4]
/-! no room -/
def pnD(i:Nat):JdV:=⟨2+(i:Int),3,OpV.zero,pnZ⟩
def pnF(n:Nat):List JdV:=(List.range n).map pnD
theorem pnF_len(n:Nat):(pnF n).length=n:=by unfold pnF;simp
def pnQ:PlV:=⟨1,[],[pnH],pnF 60⟩
theorem pnQ_vld:Vld pnQ where
 c:=by decide
 d:=fun x hx=>by
  obtain⟨i,hi,rfl⟩:=List.mem_map.1 hx;have hi:=List.mem_range.1 hi;exact(find_n (j:=pnD i) ⟨by show(0:Int)≤2+(i:Int);omega,by show(2:Int)+(i:Int)≤1000000000;omega⟩ (.inr (.inl rfl))).2 noO_zero
 ds:=by decide+kernel
 h:=fun x hx=>by
  obtain rfl:=List.mem_singleton.1 hx;exact pn_hand
 j:=fun x hx=>by cases hx
 js:=List.Pairwise.nil
 nd:=by decide+kernel
 lt:=fun x hx y hy=>by cases hy
theorem pnQ_vldP:vldP pnQ:=(vld_iff _).2 pnQ_vld
theorem pnQ_step : stepP pnQ 0 = pnQ ∧ stepN pnQ 0 = 0 := step_no (by
 rintro (⟨h, _⟩ | h | ⟨_, _, h⟩)
 ·exact absurd h (by decide)
 ·exact absurd h (by decide)
 ·have : (pnF 60).length < 60 := h
  rw [pnF_len] at this
  exact absurd this (by decide))
end S
namespace G
open Go.RowKit
theorem rs_mono{P:Program}{ops:Array Oper}{K K':List Value→World→Prop}(hk:∀l w,K l w→K' l w):∀(os:List Oper) (l:List Value) (w:World),RS P ops K os l w→RS P ops K' os l w
 |[],l,w,h=>by
  unfold RS at h⊢;exact hk l w h
 |o::rest,l,w,h=>by
  unfold RS at h⊢;split at h
  ·rename_i c;rw[if_pos c];unfold Oper.wp at h⊢;exact upon_mono (fun a w ⟨l',e,h⟩=>⟨l',e,rs_mono hk rest l' w h⟩) (fun _ _ _ h=>h) h
  ·rename_i c;rw[if_neg c];exact rs_mono hk rest _ w h
/-! ### parts in another order -/
theorem Sep.perm{E E':List Ent}(h:E.Perm E'):∀ {U:Nat→Prop} {w:World},Sep E U w→Sep E' U w:=by
 induction h with
 |nil=>exact fun h=>h
 |cons x _ ih=>exact fun⟨S,T,h1,h2,h3,h4,h5⟩=>⟨S,T,h1,h2,h3,h4,ih h5⟩
 |swap x y l=>
  rintro U w ⟨S1,T1,a1,a2,a3,a4,S2,T2,b1,b2,b3,b4,b5⟩;exact⟨S2,fun b=>S1 b∨T2 b,fun b hb=>a2 b (b1 b hb),fun b hb=>hb.elim (a1 b) (fun k=>a2 b (b2 b k)),fun b hb hc=>hc.elim (fun k=>a3 b k (b1 b hb)) (b3 b hb),b4,S1,T2,fun b hb=> .inl hb,fun b hb=> .inr hb,fun b hb hc=>a3 b hb (b2 b hc),a4,b5⟩
 |trans _ _ ih1 ih2=>exact fun h=>ih2 (ih1 h)
theorem Sep.parts:∀ {E L:List Ent} {U:Nat→Prop} {w:World},Sep (E++L) U w→∃S T:Nat→Prop,(∀b,S b→U b)∧(∀b,T b→U b)∧(∀b,S b→T b→False)∧Sep E S w∧Sep L T w
 |[],L,U,w,h=>⟨no,U,fun _ h=>h.elim,fun _ h=>h,fun _ h=>h.elim,trivial,h⟩
 |e::E,L,U,w,⟨A,B,h1,h2,h3,h4,h5⟩=>by
  obtain⟨S,T,g1,g2,g3,g4,g5⟩:=Sep.parts h5;exact⟨fun b=>A b∨S b,T,fun b hb=>hb.elim (h1 b) (fun k=>h2 b (g1 b k)),fun b hb=>h2 b (g2 b hb),fun b hb hc=>hb.elim (fun k=>h3 b k (g2 b hc)) (fun k=>g3 b k hc),⟨A,S,fun b hb=> .inl hb,fun b hb=> .inr hb,fun b hb hc=>h3 b hb (g1 b hc),h4,g4⟩,g5⟩
theorem Sep.pack{E V L:List Ent}{U:Nat→Prop}{w:World}(h:Sep (E++(V++L)) U w):Sep (E++ .all V::L) U w:=by
 obtain⟨S,T,h1,h2,h3,h4,h5⟩:=h.parts;obtain⟨S2,T2,g1,g2,g3,g4,g5⟩:=h5.parts;exact Sep.app (T:=T) h4 ⟨S2,T2,g1,g2,g3,(show(Ent.all V).ok S2 w by unfold Ent.all;exact g4),g5⟩ h1 h2 h3
theorem Sep.unpack{E V L:List Ent}{U:Nat→Prop}{w:World}(h:Sep (E++ .all V::L) U w):Sep (E++(V++L)) U w:=by
 obtain⟨S,T,h1,h2,h3,h4,h5⟩:=h.parts;obtain⟨S2,T2,g1,g2,g3,g4,g5⟩:=h5;exact Sep.app (T:=T) h4 (Sep.app (show Sep V S2 w by unfold Ent.all at g4;exact g4) g5 g1 g2 g3) h1 h2 h3
theorem Mem.perm{S0:Nat→Prop}{w0 w:World}{L L':List Ent}(M:Mem S0 w0 L w)(h:L.Perm L'):Mem S0 w0 L' w:=⟨M.pr,M.sep.perm h⟩
/-! ### what is said of each operation -/
structure Cl(δ:Type) where
 dst:Option Nat
 val:(Nat→δ)→Value
 own:(Nat→δ)→List Ent
 p:(Nat→δ)→Prop
 dep:List Nat
 use:List Nat
 eat:List Nat
def hasN(l:List Nat)(j:Nat):Bool:=l.any (Nat.beq j)
theorem hasN_iff{l:List Nat}{j:Nat}:hasN l j=true↔j∈l:=by
 unfold hasN;rw[List.any_eq_true];exact⟨fun⟨x,h1,h2⟩=>Nat.eq_of_beq_eq_true h2▸h1,fun h=>⟨j,h,Nat.beq_refl j⟩⟩
section
variable{δ:Type}
def msk(i:Nat)(dep:List Nat)(c:Nat→δ):Nat→δ:=fun j=>cond (Nat.beq j i||hasN dep j) (c j) (c i)
theorem msk_eq{i:Nat}{dep:List Nat}{c c':Nat→δ}(h0:c i=c' i)(h:∀j∈dep,c j=c' j):msk i dep c=msk i dep c':=by
 funext j;unfold msk;cases e:(Nat.beq j i||hasN dep j)
 ·exact h0
 ·rw[Bool.or_eq_true]at e;rcases e with e|e
  ·obtain rfl:=Nat.eq_of_beq_eq_true e;exact h0
  ·exact h j (hasN_iff.1 e)
def put(c:Nat→δ)(i:Nat)(x:δ):Nat→δ:=fun j=>cond (Nat.beq j i) x (c j)
theorem put_ne{c:Nat→δ}{i j:Nat}{x:δ}(h:j≠i):put c i x j=c j:=by
 unfold put;cases e:Nat.beq j i
 ·rfl
 ·exact absurd (Nat.eq_of_beq_eq_true e) h
variable(T:List (Cl δ))
def clAt(i:Nat):Cl δ:=T.getD i ⟨none,fun _=>undef,fun _=>[],fun _=>True,[],[],[]⟩
def clV(i:Nat)(c:Nat→δ):Value:=(clAt T i).val (msk i (clAt T i).dep c)
def clO(i:Nat)(c:Nat→δ):List Ent:=(clAt T i).own (msk i (clAt T i).dep c)
def clP(i:Nat)(c:Nat→δ):Prop:=(clAt T i).p (msk i (clAt T i).dep c)
def dstD:List Nat:=T.filterMap Cl.dst
def depD(i:Nat):List Nat:=(clAt T i).dep.filterMap fun j=>(clAt T j).dst
def useF(i:Nat)(c:Nat→δ):List Ent:=((List.range T.length).filter fun j=>hasN (clAt T i).use j).flatMap fun j=>clO T j c
def keepF(i:Nat)(c:Nat→δ):List Ent:=((List.range T.length).filter fun j=>hasN (clAt T i).use j&& !hasN (clAt T i).eat j).flatMap fun j=>clO T j c
def MF(i:Nat)(c:Nat→δ):List (Nat×Value):=(clAt T i).dep.filterMap fun j=>(clAt T j).dst.map fun d=>(d,clV T j c)
def JF(i:Nat):List Nat:=(dstD T).filter fun d=> !hasN (depD T i) d
def frF(lb:List Value)(i:Nat)(c:Nat→δ)(v:Nat→Value):List Value:=upd (upd lb (MF T i c)) (junk (JF T i) v)
def OutF(S0:Nat→Prop)(w0:World)(L:List Ent)(i:Nat)(F:Ent)(c:Nat→δ)(l l':List Value)(w':World):Prop:=∃x,clP T i (put c i x)∧l'=putL (clAt T i).dst (clV T i (put c i x)) l∧Mem S0 w0 (clO T i (put c i x)++(keepF T i c++F::L)) w'
def stepF(S0:Nat→Prop)(w0:World)(L:List Ent)(P:Program)(l0:List Oper)(lb:List Value)(i:Nat):Prop:=∀(F:Ent) (c:Nat→δ) (v:Nat→Value),(∀j∈(clAt T i).dep,clP T j c)→J S0 w0 (useF T i c++F::L) (RY S0 w0 .s P l0.toArray (OutF T S0 w0 L i F c (frF T lb i c v)) [(nth l0 i, .e)] (frF T lb i c v))
def stepsF(S0:Nat→Prop)(w0:World)(L:List Ent)(P:Program)(l0:List Oper)(lb:List Value):List Nat→Prop
 |[]=>True
 |i::r=>stepF T S0 w0 L P l0 lb i∧stepsF S0 w0 L P l0 lb r
def dn(n:Nat)(li:Array Bool)(j:Nat):Bool:=li.getD j false||Nat.ble n j
def slF(c:Nat→δ):List (Nat×Value):=(List.range T.length).filterMap fun j=>(clAt T j).dst.map fun d=>(d,clV T j c)
def endF(c:Nat→δ):List Ent:=((List.range T.length).filter fun j=> !(List.range T.length).any fun k=>hasN (clAt T k).eat j).flatMap fun j=>clO T j c
def allF(c:Nat→δ):List Nat→Prop
 |[]=>True
 |i::r=>clP T i c∧allF c r
def checkF(l0:List Oper)(n:Nat):Bool:=
 Nat.ble l0.length T.length && (((List.range T.length).all fun i => Nat.blt i l0.length || ((clAt T i).dst.isNone && ((clAt T i).dep.isEmpty && (clAt T i).eat.isEmpty))) && ((List.range l0.length).all fun i => (nth l0 i).dst == (clAt T i).dst && ((nth l0 i).guard.isNone && (((nth l0 i).after.all fun e => !Region.binds .any e || Nat.blt e.on i) &&
  (((clAt T i).dep.all fun j => Nat.blt j T.length && (hasN (ancL l0.toArray 5000 (depsL l0.toArray i) []) j || Nat.ble l0.length j)) && (((clAt T i).use.all fun j => hasN (clAt T i).dep j) && (((clAt T i).eat.all fun j => hasN (clAt T i).use j) &&
  ((List.range l0.length).all fun k => Nat.beq k i || (!((clAt T k).eat.any fun j => hasN (clAt T i).use j) || hasN (ancL l0.toArray 5000 (depsL l0.toArray k) []) i))))))))) && (decide (dstD T).Nodup && (dstD T).all fun d => Nat.blt d n)
variable{T}
theorem stepsF_mem{S0:Nat→Prop}{w0:World}{L:List Ent}{P:Program}{l0:List Oper}{lb:List Value}:∀ {is:List Nat},stepsF T S0 w0 L P l0 lb is→∀i∈is,stepF T S0 w0 L P l0 lb i
 |[],_,i,hi=>by cases hi
 |j::r,h,i,hi=>by
  rcases List.mem_cons.1 hi with rfl|hi
  ·exact h.1
  ·exact stepsF_mem h.2 i hi
theorem allF_of{c:Nat→δ}:∀ {is:List Nat},(∀i∈is,clP T i c)→allF T c is
 |[],_=>trivial
 |i::r,h=>⟨h i (List.mem_cons_self ..),allF_of fun j hj=>h j (List.mem_cons_of_mem _ hj)⟩
theorem FF_same{l lb:List Value}(ds:List Nat)(hl:l.length=lb.length)(h:∀s,s∉ds→l[s]? =lb[s]?):FF lb ds (fun s=>l.getD s undef)=l:=by
 apply List.ext_getElem?;intro s;rw[FF_get];by_cases c:s∈ds∧s<lb.length
 ·rw[if_pos c,List.getD_eq_getElem?_getD,List.getElem?_eq_getElem (by omega)];rfl
 ·rw[if_neg c];by_cases k:s∈ds
  ·have:¬s<lb.length:=fun h=>c ⟨k,h⟩;rw[List.getElem?_eq_none (by omega),List.getElem?_eq_none (by omega)]
  ·exact(h s k).symm
theorem fmap_slots{l:List Value}{c:Nat→δ}:∀(js:List Nat),(∀j∈js,∀d,(clAt T j).dst=some d→l.getD d undef=clV T j c)→(js.filterMap fun j=>(clAt T j).dst.map fun d=>(d,clV T j c))=(js.filterMap fun j=>(clAt T j).dst).map fun d=>(d,l.getD d undef)
 |[],_=>rfl
 |j::r,h=>by
  have ih:=fmap_slots r fun k hk=>h k (List.mem_cons_of_mem _ hk);cases e:(clAt T j).dst with
  |none=>rw[List.filterMap_cons_none (f:=fun j=>(clAt T j).dst.map fun d=>(d,clV T j c)) (by rw[e];rfl),List.filterMap_cons_none (f:=fun j=>(clAt T j).dst) e,ih]
  |some d=>rw[List.filterMap_cons_some (f:=fun j=>(clAt T j).dst.map fun d=>(d,clV T j c)) (by rw[e];rfl),List.filterMap_cons_some (f:=fun j=>(clAt T j).dst) e,ih,List.map_cons,h j (List.mem_cons_self ..) d e]
structure OkF(T:List (Cl δ))(S0:Nat→Prop)(w0:World)(L:List Ent)(l0:List Oper)(lb:List Value)(li:Array Bool)(c:Nat→δ)(l:List Value)(w:World):Prop where
 sz:li.size=l0.length
 cl:Closed l0.toArray li
 len:l.length=lb.length
 out:∀s,s∉dstD T→l[s]? =lb[s]?
 val:∀i,i<T.length→dn l0.length li i=true→∀d,(clAt T i).dst=some d→l.getD d undef=clV T i c
 p:∀i,i<T.length→dn l0.length li i=true→clP T i c
 mem:Mem S0 w0 (((List.range T.length).filter fun j=>dn l0.length li j&& !(List.range T.length).any fun k=>dn l0.length li k&&hasN (clAt T k).eat j).flatMap (fun j=>clO T j c)++L) w
theorem nodupF{n:Nat}(f:Nat→Bool):((List.range n).filter f).Nodup:=List.Pairwise.filter _ List.nodup_range
theorem flat_congr{α β:Type}{f g:α→List β}:∀ {l:List α},(∀x∈l,f x=g x)→l.flatMap f=l.flatMap g
 |[],_=>rfl
 |x::l,h=>by rw[List.flatMap_cons,List.flatMap_cons,h x (List.mem_cons_self ..),flat_congr fun y hy=>h y (List.mem_cons_of_mem _ hy)]
theorem anyF{S0:Nat→Prop}{w0:World}{L:List Ent}{P:Program}{l0:List Oper}{lb:List Value}{Q:Act→World→Prop}(hB:checkF T l0 lb.length=true)(hst:∀i,i<l0.length→stepF T S0 w0 L P l0 lb i)
  (hend:∀c w,(∀i,i<T.length→clP T i c)→Mem S0 w0 (endF T c++L) w→Q (fr (upd lb (slF T c))) w):
  ∀(n:Nat) (li:Array Bool) (c:Nat→δ) (l:List Value) (w:World),cntU l0.length li=n→OkF T S0 w0 L l0 lb li c l w→wpX P l0.toArray (fun _ _=>True) [] Q n li (fr l) w:=by
 simp only[checkF,Bool.and_eq_true,decide_eq_true_eq]at hB;obtain⟨⟨hN,hvt,hall⟩,hnd,hdl⟩:=hB;have hN:l0.length≤T.length:=Nat.le_of_ble_eq_true hN;have virt:∀i,l0.length≤i→i<T.length→(clAt T i).dst=none∧(clAt T i).dep=[]∧(clAt T i).eat=[]:=fun i h1 h2=>by
  have:=List.all_eq_true.1 hvt i (List.mem_range.2 h2);simp only[Bool.or_eq_true,Bool.and_eq_true,Option.isNone_iff_eq_none,List.isEmpty_iff]at this;rcases this with h|h
  ·rw[Nat.blt_eq]at h;omega
  ·exact h
 have dn_lt:∀ {li:Array Bool} {j:Nat},j<l0.length→dn l0.length li j=li.getD j false:=fun {li j} h=>by
  unfold dn;have:Nat.ble l0.length j=false:=by rw[Bool.eq_false_iff];intro e;have:=Nat.le_of_ble_eq_true e;omega
  rw[this,Bool.or_false]
 have dn_ge:∀ {li:Array Bool} {j:Nat},l0.length≤j→dn l0.length li j=true:=fun {li j} h=>by
  unfold dn;rw[Nat.ble_eq_true_of_le h,Bool.or_true]
 have one:∀i,i<l0.length→(nth l0 i).dst=(clAt T i).dst∧(nth l0 i).guard=none∧(∀e∈(nth l0 i).after,Region.binds .any e=true→e.on<i)∧(∀j∈(clAt T i).dep,j<T.length∧(j∈ancL l0.toArray 5000 (depsL l0.toArray i) []∨l0.length≤j))∧(∀j∈(clAt T i).use,j∈(clAt T i).dep)∧(∀j∈(clAt T i).eat,j∈(clAt T i).use)∧(∀k,k<l0.length→k≠i→∀j∈(clAt T k).eat,j∈(clAt T i).use→i∈ancL l0.toArray 5000 (depsL l0.toArray k) []):=by
  intro i hi;have:=List.all_eq_true.1 hall i (List.mem_range.2 hi);simp only[Bool.and_eq_true,beq_iff_eq,Option.isNone_iff_eq_none,List.all_eq_true,Array.all_eq_true_iff_forall_mem,Bool.or_eq_true,Bool.not_eq_true',hasN_iff,List.mem_range]at this;obtain⟨h1,h2,h3,h4,h5,h6,h7⟩:=this;refine⟨h1,h2,fun e he hb=>?_,fun j hj=>?_,h5,h6,fun k hk hne j hj hu=>?_⟩
  ·rcases h3 e he with h|h
   ·rw[hb]at h;cases h
   ·rwa[Nat.blt_eq]at h
  ·have:=h4 j hj;rw[Nat.blt_eq]at this;exact⟨this.1,this.2.imp_right Nat.le_of_ble_eq_true⟩
  ·rcases h7 k hk with h|h|h
   ·exact absurd (Nat.eq_of_beq_eq_true h) hne
   ·have:=List.any_eq_false.1 h j hj;exact absurd (hasN_iff.2 hu) this
   ·exact h
 have ancD:∀ {li:Array Bool},Closed l0.toArray li→∀k,k<l0.length→li.getD k false=true→∀j∈ancL l0.toArray 5000 (depsL l0.toArray k) [],li.getD j false=true:=fun hc k hk hl j hj=>by
  refine ancL_spec hc 5000 (depsL l0.toArray k) [] (fun q hq=>?_) (fun q hq=>by cases hq) j hj;unfold depsL at hq;rw[nth_mem_range hk]at hq;obtain⟨e,he,rfl⟩:=List.mem_map.1 hq;rw[List.mem_filter]at he;exact hc k _ (nth_mem_range hk) hl e (by simpa using he.1) he.2
 have dmem:∀i d,i<T.length→(clAt T i).dst=some d→d∈dstD T:=fun i d hi hd=>by
  unfold dstD;refine List.mem_filterMap.2 ⟨clAt T i,?_,hd⟩;unfold clAt;rw[List.getD_eq_getElem?_getD,List.getElem?_eq_getElem (by omega)];exact List.getElem_mem _
 have dinj:∀i j d,i<T.length→j<T.length→(clAt T i).dst=some d→(clAt T j).dst=some d→i=j:=fun i j d hi hj h1 h2=>by
  have e1:clAt T i=T[i]'(by omega):=by unfold clAt;rw[List.getD_eq_getElem?_getD,List.getElem?_eq_getElem (by omega)];rfl
  have e2:clAt T j=T[j]'(by omega):=by unfold clAt;rw[List.getD_eq_getElem?_getD,List.getElem?_eq_getElem (by omega)];rfl
  rw[e1]at h1;rw[e2]at h2;have hp:=hnd;unfold dstD at hp;rw[List.Nodup,List.pairwise_filterMap]at hp;rcases Nat.lt_trichotomy i j with c|c|c
  ·exact absurd rfl (List.pairwise_iff_getElem.1 hp i j (by omega) (by omega) c d h1 d h2)
  ·exact c
  ·exact absurd rfl (List.pairwise_iff_getElem.1 hp j i (by omega) (by omega) c d h2 d h1)
 intro n
 induction n with
 |zero=>
  intro li c l w hc H;have hall:∀i,i<l0.length→li.getD i false=true:=by
   intro i hi;have:=List.countP_eq_zero.1 hc i (by simpa using hi);simpa using this
  have hdn:∀i,dn l0.length li i=true:=fun i=>by
   rcases Nat.lt_or_ge i l0.length with h|h
   ·rw[dn_lt h];exact hall i h
   ·exact dn_ge h
  refine⟨?_,?_⟩
  ·cases hr:Region.ready .any l0.toArray li with
   |nil=>rfl
   |cons j r=>
    obtain⟨hj0,oj,hoj,_⟩:=mem_ready.1 (show j∈Region.ready .any l0.toArray li by rw[hr];exact List.mem_cons_self ..);have hjn:j<l0.length:=by simpa using(Array.getElem?_eq_some_iff.1 hoj).1
    have h1:=hall j hjn;have hlt:j<li.size:=by rw[H.sz];exact hjn
    simp[hlt]at hj0 h1;rw[h1]at hj0;cases hj0
  ·have e:l=upd lb (slF T c):=by
    have h1:=FF_same (dstD T) H.len H.out;unfold FF at h1;rw[←h1];congr 1;unfold slF;rw[fmap_slots (l:=l) _ fun j hj d hd=>H.val j (List.mem_range.1 hj) (hdn j) d hd];congr 1;unfold dstD clAt;have:∀(T:List (Cl δ)),T.filterMap Cl.dst=(List.range T.length).filterMap fun j=>(T.getD j ⟨none,fun _=>undef,fun _=>[],fun _=>True,[],[],[]⟩).dst:=fun T=>by
     have h2:T=(List.range T.length).map fun j=>T.getD j ⟨none,fun _=>undef,fun _=>[],fun _=>True,[],[],[]⟩:=by
      apply List.ext_getElem
      ·simp
      ·intro i h1 h2;simp[h1]
     conv=>lhs;rw[h2]
     rw[List.filterMap_map];rfl
    exact this T
   rw[e];refine hend c w (fun i hi=>H.p i hi (hdn i)) ?_;have hm:=H.mem;refine cast (congrArg (fun x=>Mem S0 w0 (x++L) w) ?_) hm;unfold endF;refine congrArg (fun q=>List.flatMap _ q) (List.filter_congr fun j hj=>?_);rw[hdn j,Bool.true_and];congr 1;rw[Bool.eq_iff_iff,List.any_eq_true,List.any_eq_true];constructor
   ·rintro⟨k,hk,h⟩;rw[Bool.and_eq_true]at h;exact⟨k,hk,h.2⟩
   ·rintro⟨k,hk,h⟩;exact⟨k,hk,by rw[hdn k,h];rfl⟩
 |succ n ih=>
  intro li c l w hc H;refine⟨fun h0=>?_,fun i hi=>?_⟩
  ·exfalso;have hex:∃s,s<l0.length∧li.getD s false=false:=by
    have hp:0<(List.range l0.length).countP fun i=> !li.getD i false:=by unfold cntU at hc;omega
    obtain⟨s,hs,h⟩:=List.countP_pos_iff.1 hp;exact⟨s,by simpa using hs,by simpa using h⟩
   obtain⟨s,hs,hmin⟩:∃s,(s<l0.length∧li.getD s false=false)∧∀t,t<s→li.getD t false=true:=by
    obtain⟨s,hs⟩:=hex
    induction s using Nat.strongRecOn with
    |_ s ihs=>
     by_cases h:∃t,t<s∧li.getD t false=false
     ·obtain⟨t,ht,hf⟩:=h;exact ihs t ht ⟨by omega,hf⟩
     ·refine⟨s,hs,fun t ht=>?_⟩;cases hb:li.getD t false
      ·exact absurd ⟨t,ht,hb⟩ h
      ·rfl
   have:s∈Region.ready .any l0.toArray li:=by
    refine mem_ready.2 ⟨?_,nth l0 s,nth_mem_range hs.1,fun e he hb=>hmin _ ((one s hs.1).2.2.1 e he hb)⟩;have:=hs.2;have hlt:s<li.size:=by rw[H.sz];exact hs.1
    simp[hlt]at this⊢;exact this
   rw[h0]at this;cases this
  ·obtain⟨hi0,oi,hoi,hia⟩:=mem_ready.1 hi;have him:i<l0.length:=by simpa using(Array.getElem?_eq_some_iff.1 hoi).1
   rw[nth_mem_range him]at hoi;obtain rfl:=Option.some.inj hoi;obtain⟨o1,o2,o3,o4,o5,o6,o7⟩:=one i him;have hif:li.getD i false=false:=by
    have hlt:i<li.size:=by rw[H.sz];exact him
    simp[hlt]at hi0⊢;exact hi0
   have hni:dn l0.length li i=false:=by rw[dn_lt him];exact hif
   have hdone:∀j∈(clAt T i).dep,dn l0.length li j=true:=fun j hj=>by
    rcases(o4 j hj).2 with h|h
    ·have := ancL_spec H.cl 5000 (depsL l0.toArray i) [] (fun q hq => by
      unfold depsL at hq
      rw [nth_mem_range him] at hq
      obtain ⟨e, he, rfl⟩ := List.mem_map.1 hq
      rw [List.mem_filter] at he
      exact hia e (by simpa using he.1) he.2) (fun q hq => by cases hq) j h
     unfold dn;rw[this];rfl
    ·exact dn_ge h
   have huse:∀j∈(clAt T i).use,(dn l0.length li j&& !(List.range T.length).any fun k=>dn l0.length li k&&hasN (clAt T k).eat j)=true:=fun j hj=>by
    rw[hdone j (o5 j hj),Bool.true_and,Bool.not_eq_true',List.any_eq_false];intro k hk h;rw[Bool.and_eq_true,hasN_iff]at h;have hkn:k<l0.length:=by
     rcases Nat.lt_or_ge k l0.length with c|c
     ·exact c
     ·rw[(virt k c (List.mem_range.1 hk)).2.2]at h;exact absurd h.2 (List.not_mem_nil)
    have hne:k≠i:=fun e=>by rw[e,hni]at h;cases h.1
    rw[dn_lt hkn]at h;have:=ancD H.cl k hkn h.1 i (o7 k hkn hne j h.2 hj);rw[hif]at this;cases this
   -- the others
   obtain⟨V,hV⟩:∃V:List Nat,V=(List.range T.length).filter fun j=>(dn l0.length li j&& !(List.range T.length).any fun k=>dn l0.length li k&&hasN (clAt T k).eat j)&& !hasN (clAt T i).use j:=⟨_,rfl⟩
   have hVn:V.Nodup:=hV▸nodupF _;have hVm:∀j,j∈V↔j<T.length∧(dn l0.length li j&& !(List.range T.length).any fun k=>dn l0.length li k&&hasN (clAt T k).eat j)=true∧j∉(clAt T i).use:=fun j=>by
    rw[hV,List.mem_filter,List.mem_range,Bool.and_eq_true,Bool.not_eq_true',←Bool.not_eq_true,hasN_iff]
   have hperm:((List.range T.length).filter fun j=>dn l0.length li j&& !(List.range T.length).any fun k=>dn l0.length li k&&hasN (clAt T k).eat j).Perm (((List.range T.length).filter fun j=>hasN (clAt T i).use j)++V):=by
    refine(List.perm_ext_iff_of_nodup (nodupF _) (List.nodup_append.2 ⟨nodupF _,hVn,fun a ha b hb e=>?_⟩)).2 fun a=>?_
    ·subst e;rw[List.mem_filter,hasN_iff]at ha;exact((hVm a).1 hb).2.2 ha.2
    ·rw[List.mem_append,hVm,List.mem_filter,List.mem_filter,List.mem_range,hasN_iff];constructor
     ·rintro⟨h1,h2⟩;by_cases hu:a∈(clAt T i).use
      ·exact .inl ⟨h1,hu⟩
      ·exact .inr ⟨h1,h2,hu⟩
     ·rintro(⟨h1,h2⟩|⟨h1,h2,_⟩)
      ·exact⟨h1,huse a h2⟩
      ·exact⟨h1,h2⟩
   have M1:Mem S0 w0 (useF T i c++ .all (V.flatMap fun j=>clO T j c)::L) w:=by
    have h1:=H.mem.perm ((hperm.flatMap_right fun j=>clO T j c).append_right L);rw[List.flatMap_append,List.append_assoc]at h1;exact⟨h1.pr,h1.sep.pack⟩
   have hfr:frF T lb i c (fun s=>l.getD s undef)=l:=by
    have e1:MF T i c=(depD T i).map fun d=>(d,l.getD d undef):=fmap_slots (l:=l) _ fun j hj d hd=>H.val j (o4 j hj).1 (hdone j hj) d hd;unfold frF junk;rw[e1];have e2:upd (upd lb ((depD T i).map fun d=>(d,l.getD d undef))) ((JF T i).map fun d=>(d,l.getD d undef))=FF (FF lb (depD T i) fun d=>l.getD d undef) (JF T i) fun d=>l.getD d undef:=rfl;rw[e2];refine FF_same (lb:=FF lb (depD T i) fun d=>l.getD d undef) (JF T i) (by rw[FF_len];exact H.len) fun s hs=>?_
    rw[FF_get];by_cases hsd:s∈depD T i∧s<lb.length
    ·rw[if_pos hsd,List.getD_eq_getElem?_getD,List.getElem?_eq_getElem (by rw[H.len];exact hsd.2)];rfl
    ·rw[if_neg hsd];by_cases hsl:s<lb.length
     ·refine H.out s fun hd=>hs ?_;unfold JF;rw[List.mem_filter,Bool.not_eq_true',←Bool.not_eq_true,hasN_iff];exact⟨hd,fun h=>hsd ⟨h,hsl⟩⟩
     ·rw[List.getElem?_eq_none (by have:=H.len;omega),List.getElem?_eq_none (by omega)]
   have hk:=hst i him (.all (V.flatMap fun j=>clO T j c)) c (fun s=>l.getD s undef) (fun j hj=>H.p j (o4 j hj).1 (hdone j hj)) w M1;rw[hfr]at hk;have hk:RS P l0.toArray (OutF T S0 w0 L i (.all (V.flatMap fun j=>clO T j c)) c l) [nth l0 i] l w:=hk;unfold RS at hk;unfold xOp;rw[nth_mem_range him];have hwn:Region.wanted (nth l0 i) (yielded l0.toArray (fr l).tmps)=true:=by simp[Region.wanted,o2]
   simp only[hwn,if_true];rw[if_pos (by simp[Region.wanted,o2])]at hk;unfold Oper.wp at hk⊢;refine upon_mono ?_ (fun _ _ _ h=>h) hk;rintro a' w' ⟨l',rfl,hO⟩;refine⟨fun _=>trivial,?_⟩;have hO:OutF T S0 w0 L i (.all (V.flatMap fun j=>clO T j c)) c l l' w':=hO;obtain⟨x,hp,rfl,hM⟩:=hO;have same:∀j,j<T.length→dn l0.length li j=true→msk j (clAt T j).dep (put c i x)=msk j (clAt T j).dep c:=fun j hjt hj=>by
    have hne:j≠i:=fun e=>by rw[e,hni]at hj;cases hj
    refine msk_eq (put_ne hne) fun q hq=>put_ne fun e=>?_
    rcases Nat.lt_or_ge j l0.length with c|c
    ·rw[dn_lt c]at hj;rcases((one j c).2.2.2.1 q hq).2 with h|h
     ·have:=ancD H.cl j c hj q h;rw[e,hif]at this;cases this
     ·omega
    ·rw[(virt j c hjt).2.1]at hq;cases hq
   have hg:∀j,dn l0.length (li.setIfInBounds i true) j=true↔j=i∨dn l0.length li j=true:=fun j=>by
    by_cases e:j=i
    ·subst e;have hlt:j<li.size:=by rw[H.sz];exact him
     rw[dn_lt him];simp[hlt]
    ·unfold dn;rw[getD_set_ne false (Ne.symm e)];simp[e]
   refine ih _ (put c i x) _ w' ?_ ⟨by simp[H.sz],H.cl.set hi,?_,?_,?_,?_,?_⟩
   ·have:=countP_set l0.length li i him (by rw[H.sz];exact him) hif;omega
   ·unfold putL;split
    ·rw[List.length_set];exact H.len
    ·exact H.len
   ·intro s hs;unfold putL;split
    ·rename_i d hd;rw[List.getElem?_set_ne (fun e=>hs (by rw[←e];exact dmem i d (by omega) hd))];exact H.out s hs
    ·exact H.out s hs
   ·intro j hj hl d hd;rcases(hg j).1 hl with rfl|hl
    ·rw[hd];have hdn:d<lb.length:=by
      have:=List.all_eq_true.1 hdl d (dmem j d hj hd);rwa[Nat.blt_eq]at this
     show(l.set d _).getD d undef=_;rw[List.getD_eq_getElem?_getD,List.getElem?_set,if_pos rfl,if_pos (by rw[H.len];exact hdn)];rfl
    ·have hne:j≠i:=fun e=>by rw[e,hni]at hl;cases hl
     have h1:=H.val j hj hl d hd;have h2:clV T j (put c i x)=clV T j c:=by unfold clV;rw[same j hj hl]
     rw[h2,←h1];unfold putL;split
     ·rename_i d' hd';rw[List.getD_eq_getElem?_getD,List.getElem?_set_ne (fun e=>hne (dinj j i d hj (by omega) hd (by rw[hd',e]))),←List.getD_eq_getElem?_getD]
     ·rfl
   ·intro j hj hl;rcases(hg j).1 hl with rfl|hl
    ·exact hp
    ·have h1:=H.p j hj hl;unfold clP at h1⊢;rwa[same j hj hl]
   ·have hM2:Mem S0 w0 (clO T i (put c i x)++(keepF T i c++(V.flatMap (fun j=>clO T j c)++L))) w':=by
     have h1:=hM.sep;rw[←List.append_assoc]at h1;have h2:=h1.unpack;rw[List.append_assoc]at h2;exact⟨hM.pr,h2⟩
    have e1:keepF T i c=keepF T i (put c i x):=by
     unfold keepF;refine flat_congr fun j hj=>?_
     rw[List.mem_filter,Bool.and_eq_true,hasN_iff]at hj;unfold clO;rw[same j (List.mem_range.1 hj.1) (hdone j (o5 j hj.2.1))]
    have e2:V.flatMap (fun j=>clO T j c)=V.flatMap fun j=>clO T j (put c i x):=flat_congr fun j hj=>by
     have:=((hVm j).1 hj).2.1;rw[Bool.and_eq_true]at this;unfold clO;rw[same j ((hVm j).1 hj).1 this.1]
    rw[e1,e2]at hM2;unfold keepF at hM2;rw[←List.append_assoc,←List.append_assoc]at hM2;refine hM2.perm (List.Perm.append_right L ?_);have e3:clO T i (put c i x)=[i].flatMap fun j=>clO T j (put c i x):=by simp
    rw[e3,←List.flatMap_append,←List.flatMap_append];refine List.Perm.flatMap_right _ ?_;have live:∀a,a≠i→((dn l0.length (li.setIfInBounds i true) a&& !(List.range T.length).any fun k=>dn l0.length (li.setIfInBounds i true) k&&hasN (clAt T k).eat a)=true↔(dn l0.length li a&& !(List.range T.length).any fun k=>dn l0.length li k&&hasN (clAt T k).eat a)=true∧a∉(clAt T i).eat):=fun a ha=>by
     rw[Bool.and_eq_true,Bool.and_eq_true,hg,Bool.not_eq_true',Bool.not_eq_true',List.any_eq_false,List.any_eq_false];constructor
     ·rintro⟨h1,h2⟩;refine⟨⟨h1.resolve_left ha,fun k hk h=>h2 k hk ?_⟩,fun h=>h2 i (List.mem_range.2 (by omega)) ?_⟩
      ·rw[Bool.and_eq_true]at h⊢;exact⟨(hg k).2 (.inr h.1),h.2⟩
      ·rw[Bool.and_eq_true];exact⟨(hg i).2 (.inl rfl),hasN_iff.2 h⟩
     ·rintro⟨⟨h1,h2⟩,h3⟩;refine⟨.inr h1,fun k hk h=>?_⟩;rw[Bool.and_eq_true]at h;rcases(hg k).1 h.1 with rfl|h4
      ·exact h3 (hasN_iff.1 h.2)
      ·exact h2 k hk (by rw[Bool.and_eq_true];exact⟨h4,h.2⟩)
    have livei:(dn l0.length (li.setIfInBounds i true) i&& !(List.range T.length).any fun k=>dn l0.length (li.setIfInBounds i true) k&&hasN (clAt T k).eat i)=true:=by
     rw[Bool.and_eq_true];refine⟨(hg i).2 (.inl rfl),?_⟩;rw[Bool.not_eq_true',List.any_eq_false];intro k hk h;rw[Bool.and_eq_true,hasN_iff]at h;have hkn:k<l0.length:=by
      rcases Nat.lt_or_ge k l0.length with c|c
      ·exact c
      ·rw[(virt k c (List.mem_range.1 hk)).2.2]at h;exact absurd h.2 (List.not_mem_nil)
     obtain⟨_,_,_,k4,k5,k6,_⟩:=one k hkn;have hia2:=(k4 i (k5 i (k6 i h.2))).2.resolve_right (by omega);rcases(hg k).1 h.1 with rfl|hkd
     ·have:=hdone k (k5 k (k6 k h.2));rw[hni]at this;cases this
     ·rw[dn_lt hkn]at hkd;have:=ancD H.cl k hkn hkd i hia2;rw[hif]at this;cases this
    refine(List.perm_ext_iff_of_nodup ?_ (nodupF _)).2 fun a=>?_
    ·rw[List.append_assoc,List.nodup_append];refine⟨List.nodup_cons.2 ⟨(by simp),List.nodup_nil⟩,List.nodup_append.2 ⟨nodupF _,hVn,fun a ha b hb e=>?_⟩,fun a ha b hb e=>?_⟩
     ·subst e;rw[List.mem_filter,Bool.and_eq_true,hasN_iff]at ha;exact((hVm a).1 hb).2.2 ha.2.1
     ·subst e;rw[List.mem_singleton]at ha;subst ha;rcases List.mem_append.1 hb with h|h
      ·rw[List.mem_filter,Bool.and_eq_true,hasN_iff]at h;have:=hdone a (o5 a h.2.1);rw[hni]at this;cases this
      ·have:=((hVm a).1 h).2.1;rw[hni]at this;cases this
    ·rw[List.append_assoc,List.mem_append,List.mem_append,List.mem_singleton,hVm,List.mem_filter,List.mem_filter,List.mem_range,Bool.and_eq_true,hasN_iff,Bool.not_eq_true',←Bool.not_eq_true,hasN_iff];by_cases ha:a=i
     ·subst ha;exact⟨fun _=>⟨by omega,livei⟩,fun _=> .inl rfl⟩
     ·rw[live a ha];constructor
      ·rintro(h|⟨h1,h2,h3⟩|⟨h1,h2,h3⟩)
       ·exact absurd h ha
       ·exact⟨h1,huse a h2,h3⟩
       ·exact⟨h1,h2,fun h=>h3 (o6 a h)⟩
      ·rintro⟨h1,h2,h3⟩;by_cases hu:a∈(clAt T i).use
       ·exact .inr (.inl ⟨h1,hu,h3⟩)
       ·exact .inr (.inr ⟨h1,h2,hu⟩)
end
section
variable{δ:Type}{T:List (Cl δ)}{S0:Nat→Prop}{w0:World}{L:List Ent}{P:Program}{Q:Exit→Act→World→Prop}{l0:List Oper}{lb:List Value}{id:Nat}
theorem J.regionF(d0:δ)(T:List (Cl δ))(V:List Ent)(M:(Nat→δ)→List (Nat×Value))(E:(Nat→δ)→List Ent){l1:(Nat→δ)→List Value}{La:List Ent}(hm:P.follows .mixedOrders=true)(hB:checkF T l0 lb.length=true)(hV:((List.range (T.length - l0.length)).flatMap fun j=>clO T (l0.length+j) fun _=>d0)=V)(hp0:allF T (fun _=>d0) ((List.range (T.length - l0.length)).map fun j=>l0.length+j))(hs:stepsF T S0 w0 L P l0 lb (List.range l0.length))(hM:∀c,slF T c=M c)(hE:∀c,endF T c=E c)
  {L1:(Nat→δ)→List Ent}(k:∀c,allF T c (List.range l0.length)→J S0 w0 (L1 c) (RY S0 w0 .s P l0.toArray (KN Q) [] (l1 c)))(hl:∀c,upd lb (M c)=l1 c:=by intro c;simp only[upd,List.set_cons_succ,List.set_cons_zero];exact rfl)(hL:∀c,E c++L=L1 c:=by intro c;dsimp only[List.cons_append,List.nil_append])
  (hA:V++L=La:=by first|rfl|dsimp only[List.cons_append,List.nil_append]):J S0 w0 La ((Code.region id l0.toArray true).wp P Q (fr lb)):=fun w Mm=>by
 subst hA hV;refine wp_region_any hm ?_;have hN:l0.length≤T.length:=by
  simp only[checkF,Bool.and_eq_true]at hB;exact Nat.le_of_ble_eq_true hB.1.1
 have hf:∀i,(Array.replicate l0.length false).getD i false=false:=fun i=>by
  rw[Array.getD_eq_getD_getElem?,Array.getElem?_replicate];split<;>rfl
 have hdn:∀i,dn l0.length (Array.replicate l0.length false) i=Nat.ble l0.length i:=fun i=>by
  unfold dn;rw[hf i,Bool.false_or]
 have allV:∀(is:List Nat) (c:Nat→δ),allF T c is→∀i∈is,clP T i c:=fun is=>by
  induction is with
  |nil=>intro c _ i hi;cases hi
  |cons j r ih=>
   intro c h i hi;rcases List.mem_cons.1 hi with rfl|hi
   ·exact h.1
   ·exact ih c h.2 i hi
 have hvt:∀i,l0.length≤i→i<T.length→(clAt T i).dst=none∧(clAt T i).eat=[]:=fun i h1 h2=>by
  simp only[checkF,Bool.and_eq_true]at hB;have:=List.all_eq_true.1 hB.1.2.1 i (List.mem_range.2 h2);simp only[Bool.or_eq_true,Bool.and_eq_true,Option.isNone_iff_eq_none,List.isEmpty_iff]at this;rcases this with h|h
  ·rw[Nat.blt_eq]at h;omega
  ·exact⟨h.1,h.2.2⟩
 have key := anyF (P := P) (Q := fun a w => ∃ l, a = fr l ∧ Q .normal (fr l) w) hB (fun i hi => stepsF_mem hs i (List.mem_range.2 hi)) (fun c w' hp hM' => by
  refine ⟨_, rfl, ?_⟩
  rw [hE, hL] at hM'
  rw [hM, hl]
  have := k c (allF_of fun i hi => hp i (by have := List.mem_range.1 hi; omega)) w' hM'
  unfold RY RS at this
  exact this) l0.length (Array.replicate l0.length false) (fun _ => d0) lb { w with drawn := w.drawn + 1 }
  (by
   unfold cntU
   rw [List.countP_eq_length.2 (fun i _ => by rw [hf i]; rfl), List.length_range])
  ⟨by simp, (by intro k ok _ h; rw [hf] at h; cases h), rfl, fun _ _ => rfl, (fun i hi h d hd => by
   rw [hdn] at h
   rw [(hvt i (Nat.le_of_ble_eq_true h) hi).1] at hd
   cases hd), (fun i hi h => by
   rw [hdn] at h
   have h := Nat.le_of_ble_eq_true h
   exact allV _ _ hp0 i (List.mem_map.2 ⟨i - l0.length, List.mem_range.2 (by omega), by omega⟩)), by
   have e : ((List.range T.length).filter fun j => dn l0.length (Array.replicate l0.length false) j && !(List.range T.length).any fun k => dn l0.length (Array.replicate l0.length false) k && hasN (clAt T k).eat j) = (List.range (T.length - l0.length)).map fun j => l0.length + j := by
    have e1 : ((List.range T.length).filter fun j => dn l0.length (Array.replicate l0.length false) j && !(List.range T.length).any fun k => dn l0.length (Array.replicate l0.length false) k && hasN (clAt T k).eat j) = (List.range T.length).filter fun j => Nat.ble l0.length j := List.filter_congr fun j _ => by
     rw [hdn]
     have : ((List.range T.length).any fun k => dn l0.length (Array.replicate l0.length false) k && hasN (clAt T k).eat j) = false := by
      rw [List.any_eq_false]
      intro k hk h
      rw [Bool.and_eq_true, hdn, hasN_iff] at h
      rw [(hvt k (Nat.le_of_ble_eq_true h.1) (List.mem_range.1 hk)).2] at h
      exact absurd h.2 (List.not_mem_nil)
     rw [this]
     simp
    rw [e1]
    obtain ⟨q, hq⟩ := Nat.le.dest hN
    rw [← hq, List.range_add, List.filter_append, show l0.length + q - l0.length = q by omega]
    rw [List.filter_eq_nil_iff.2 fun j hj => (by
     have := List.mem_range.1 hj
     intro h
     have := Nat.le_of_ble_eq_true h
     omega), List.nil_append]
    refine List.filter_eq_self.2 fun j hj => ?_
    obtain ⟨m, _, rfl⟩ := List.mem_map.1 hj
    exact Nat.ble_eq_true_of_le (by omega)
   rw [e, List.flatMap_map]
   exact Mm.grow ((Below.refl _ _).drew)⟩
 have h2:=wpAny_of_X (Q':=Q) (fun a w (h:∃l,a=fr l∧Q .normal (fr l) w)=>by obtain⟨l,rfl,h⟩:=h;exact h) l0.length (Array.replicate l0.length false) (fr lb) _ key;simpa using h2
theorem stepF.i{i:Nat}{o:Oper}(kd:Kd)(U K:(Nat→δ)→List Ent)(O:(Nat→δ)→δ→List Ent)(V:(Nat→δ)→δ→Value)(p:(Nat→δ)→Prop)(q:(Nat→δ)→δ→Prop)(M:(Nat→δ)→List (Nat×Value))(Jk:List Nat)(dd:Option Nat){l1:(Nat→δ)→(Nat→Value)→List Value}
  {L1:Ent→(Nat→δ)→List Ent}(h:∀F c v,p c→J S0 w0 (L1 F c) (RY S0 w0 .s P l0.toArray (fun l' w'=>∃x,q c x∧l'=putL dd (V c x) (l1 c v)∧Mem S0 w0 (O c x++(K c++F::L)) w') [(o,kd)] (l1 c v)))
  (hU:∀c,useF T i c=U c)(hK:∀c,keepF T i c=K c)(hO:∀c x,clO T i (put c i x)=O c x)(hV:∀c x,clV T i (put c i x)=V c x)(hp:∀c,(∀j∈(clAt T i).dep,clP T j c)→p c)(hq:∀c x,q c x→clP T i (put c i x))(hM:∀c,MF T i c=M c)(hJ:JF T i=Jk)(hd:(clAt T i).dst=dd)(ho:nth l0 i=o:=by dsimp only[nth])
  (hl:∀c v,upd (upd lb (M c)) (junk Jk v)=l1 c v:=by intro c v;simp only[upd,junk,List.map_cons,List.map_nil,List.set_cons_succ,List.set_cons_zero];exact rfl)
  (hL:∀F c,U c++F::L=L1 F c:=by intro F c;dsimp only[List.cons_append,List.nil_append]):stepF T S0 w0 L P l0 lb i:=fun F c v hpp=>by
 subst ho;unfold frF;rw[hM,hJ,hl,hU,hL];have:=h F c v (hp c hpp);unfold OutF;rw[hd,hK];intro w Mm;have h2:=this w Mm;unfold RY at h2⊢;have h2:RS P l0.toArray _ [nth l0 i] (l1 c v) w:=h2;show RS P l0.toArray _ [nth l0 i] (l1 c v) w;refine rs_mono (fun l' w' ⟨x,h1,h2,h3⟩=>⟨x,hq c x h1,?_,?_⟩) _ _ _ h2
 ·rw[hV];exact h2
 ·rw[hO];exact h3
theorem J.outF{δ:Type}{L' F:List Ent}{q:δ→Prop}{V:δ→Value}{O:δ→List Ent}{l l':List Value}{dd:Option Nat}(x:δ)(hq:q x)(hl:l'=putL dd (V x) l)(hs:(O x++F).Sublist L'):J S0 w0 L' (fun w'=>∃x,q x∧l'=putL dd (V x) l∧Mem S0 w0 (O x++F) w'):=fun w Mm=>⟨x,hq,hl,Mm.sub hs⟩
end
end G
namespace W
open Go.RowKit G
section
variable{S0:Nat→Prop}{w0:World}{L:List Ent}{P:Program}{ops:Array Oper}{K:List Value→World→Prop}{rest:List (Oper×Kd)}{l l':List Value}{m:Md}{d:Tmp}{ty xt e:TypeId}{pos:String}{af:Array Edge}{kd:Kd}{n sz by_:Nat}{z:List Value}
theorem J.bI{parts:Array (Nat×Operand)}(k:IntKind)(zs:List Int)(ps:List (Nat×Int))(xs:List Int)[U:Und P xt (.array n e)][I:Inf P xt sz by_ z][Z:Siz P e 1](hk:pureK kd=true)(hz:z=ints k zs)(hv:parts.toList.map (fun p=>(p.1,ev l p.2))=ps.map fun p=>(p.1,Value.int k p.2))(hx:ps.foldl (fun z p=>z.set p.1 p.2) zs=xs)(kk:J S0 w0 L (RY S0 w0 m P ops K rest l'))(hb:∀p∈ps,p.1<zs.length:=by decide)(hl:l.set d (.agg (ints k xs).toArray)=l':=by dsimp only[List.set]):
  J S0 w0 L (RY S0 w0 m P ops K ((⟨some d, .build xt parts,ty,pos,af,none⟩,kd)::rest) l):=
 J.pur hk (fun w => by
  subst hz hx
  exact D.buildI U.h I.h Z.h hv hb) kk hl
end
end W
end Go.Proofs.YtjjbdaiioociaaaGreatDoor
