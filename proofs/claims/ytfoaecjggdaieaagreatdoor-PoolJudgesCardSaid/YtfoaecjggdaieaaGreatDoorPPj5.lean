/-
  Part 5 of the lemmas of these laws: PoolJudges.
-/
import Derived.Test.YtfoaecjggdaieaaGreatDoorPPj4
set_option linter.unusedVariables false
set_option linter.unusedSimpArgs false
open Go.Proofs.Tryz
namespace Go.Proofs.YtfoaecjggdaieaaGreatDoor
namespace W
open Go.RowKit G
set_option maxRecDepth 20000
set_option maxHeartbeats 8000000
attribute [local irreducible] RS RX
theorem E97:Enters prog 97:= .mk func97 (by kernel_rfl) rfl
theorem E125:Enters prog 125:= .mk func125 (by kernel_rfl) rfl
theorem E148:Enters prog 148:= .mk func148 (by kernel_rfl) rfl
theorem len64(n:Int)(hn:247<n∧n<18446744073709551616)(w:World):
  Calls prog 125 #[.int .u64 n] w (Ret w fun v _=>∃L,v= .int .i64 L∧(L+7) / 8=((S.blen n:Nat):Int)∧0≤L∧L≤64):=by
 have e32:(2:Int) ^ (32:Int).toNat=4294967296:=by decide
 have e16:(2:Int) ^ (16:Int).toNat=65536:=by decide
 have e8:(2:Int) ^ (8:Int).toNat=256:=by decide
 refine eE 24 func125 rfl rfl fun hE=>?_
 refine sAI rfl (wx fun _ J2=>sq fun _ J3=>RS.mvI rfl ?_);refine RS.oe ?_;refine nl J3 (C.ifd rfl (fun c4=>?_) (fun c4=>?_))
 ·refine sq fun _ J5=>RS.mvI rfl ?_;refine RS.ob (D.shr_u64 rfl rfl (by omega) (by constructor<;>omega)) (fun z6=>?_);refine RS.asI rfl (nl J5 ?_);simp only[e32];refine region (RS.asI rfl (nl J2 (wx fun _ J7=>sq fun _ J8=>RS.mvI rfl ?_)));refine RS.oe ?_;refine nl J8 (C.ifd rfl (fun c9=>?_) (fun c9=>?_))
  ·refine sq fun _ J10=>RS.mvI rfl ?_;refine RS.ob (D.shr_u64 rfl rfl (by omega) (by constructor<;>omega)) (fun z11=>?_);refine RS.asI rfl (nl J10 ?_);simp only[e16];refine region (RS.mvI rfl ?_);refine RS.adi ?_;refine RS.asI rfl (nl J7 (wx fun _ J12=>sq fun _ J13=>RS.mvI rfl ?_));refine RS.oe ?_;refine nl J13 (C.ifd rfl (fun c14=>?_) (fun c14=>?_))
   ·refine sq fun _ J15=>RS.mvI rfl ?_;refine RS.ob (D.shr_u64 rfl rfl (by omega) (by constructor<;>omega)) (fun z16=>?_);refine RS.asI rfl (nl J15 ?_);simp only[e8];refine region (RS.mvI rfl ?_);refine RS.adi ?_;refine RS.asI rfl ?_;refine nl J12 (sq fun _ J17=>?_);refine RS.mvI rfl (RS.mvI rfl ?_);refine RS.cu V49 V5 ?_;refine RS.indexStr rfl rfl V9 (by refine⟨by omega,?_⟩;show _<((256:Nat):Int);omega) (fun v18 q18 r18=>?_);refine RS.nm ?_;simp only[lim]at r18;have ht:=S.tab_of q18 (by kernel_rfl) (by omega);refine RS.o (D.conv rfl V5 V3 (W.i64 (by omega))) ?_;refine RS.adi ?_;refine RS.asI rfl (nl J17 (wp_ret ?_));refine retI rfl rfl ?_;refine⟨_,rfl,hE,_,rfl,S.len_big n _ 7 (n / 4294967296 / 65536 / 256) v18 (by show n / 4294967296 / 65536 / 256=n / 72057594037927936;omega) (by omega) (by omega) (by omega) (by omega) (by omega),by omega,by omega⟩
   refine wp_skip (J12 _ _ (sq fun _ J19=>RS.mvI rfl (RS.mvI rfl ?_)));refine RS.cu V49 V5 ?_;refine RS.indexStr rfl rfl V9 (by refine⟨by omega,?_⟩;show _<((256:Nat):Int);omega) (fun v20 q20 r20=>?_);refine RS.nm ?_;simp only[lim]at r20;have ht:=S.tab_of q20 (by kernel_rfl) (by omega);refine RS.o (D.conv rfl V5 V3 (W.i64 (by omega))) ?_;refine RS.adi ?_;refine RS.asI rfl (nl J19 (wp_ret ?_));refine retI rfl rfl ?_;refine⟨_,rfl,hE,_,rfl,S.len_big n _ 6 (n / 4294967296 / 65536) v20 (by show n / 4294967296 / 65536=n / 281474976710656;omega) (by omega) (by omega) (by omega) (by omega) (by omega),by omega,by omega⟩
  refine wp_skip (J7 _ _ (wx fun _ J21=>sq fun _ J22=>RS.mvI rfl ?_));refine RS.oe ?_;refine nl J22 (C.ifd rfl (fun c23=>?_) (fun c23=>?_))
  ·refine sq fun _ J24=>RS.mvI rfl ?_;refine RS.ob (D.shr_u64 rfl rfl (by omega) (by constructor<;>omega)) (fun z25=>?_);refine RS.asI rfl (nl J24 ?_);simp only[e8];refine region (RS.mvI rfl ?_);refine RS.adi ?_;refine RS.asI rfl ?_;refine nl J21 (sq fun _ J26=>?_);refine RS.mvI rfl (RS.mvI rfl ?_);refine RS.cu V49 V5 ?_;refine RS.indexStr rfl rfl V9 (by refine⟨by omega,?_⟩;show _<((256:Nat):Int);omega) (fun v27 q27 r27=>?_);refine RS.nm ?_;simp only[lim]at r27;have ht:=S.tab_of q27 (by kernel_rfl) (by omega);refine RS.o (D.conv rfl V5 V3 (W.i64 (by omega))) ?_;refine RS.adi ?_;refine RS.asI rfl (nl J26 (wp_ret ?_));refine retI rfl rfl ?_;refine⟨_,rfl,hE,_,rfl,S.len_big n _ 5 (n / 4294967296 / 256) v27 (by show n / 4294967296 / 256=n / 1099511627776;omega) (by omega) (by omega) (by omega) (by omega) (by omega),by omega,by omega⟩
  refine wp_skip (J21 _ _ (sq fun _ J28=>RS.mvI rfl (RS.mvI rfl ?_)));refine RS.cu V49 V5 ?_;refine RS.indexStr rfl rfl V9 (by refine⟨by omega,?_⟩;show _<((256:Nat):Int);omega) (fun v29 q29 r29=>?_);refine RS.nm ?_;simp only[lim]at r29;have ht:=S.tab_of q29 (by kernel_rfl) (by omega);refine RS.o (D.conv rfl V5 V3 (W.i64 (by omega))) ?_;refine RS.adi ?_;refine RS.asI rfl (nl J28 (wp_ret ?_));refine retI rfl rfl ?_;refine⟨_,rfl,hE,_,rfl,S.len_big n _ 4 (n / 4294967296) v29 (by show n / 4294967296=n / 4294967296;omega) (by omega) (by omega) (by omega) (by omega) (by omega),by omega,by omega⟩
 refine wp_skip (J2 _ _ (wx fun _ J30=>sq fun _ J31=>RS.mvI rfl ?_));refine RS.oe ?_;refine nl J31 (C.ifd rfl (fun c32=>?_) (fun c32=>?_))
 ·refine sq fun _ J33=>RS.mvI rfl ?_;refine RS.ob (D.shr_u64 rfl rfl (by omega) (by constructor<;>omega)) (fun z34=>?_);refine RS.asI rfl (nl J33 ?_);simp only[e16];refine region (RS.mvI rfl ?_);refine RS.adi ?_;refine RS.asI rfl (nl J30 (wx fun _ J35=>sq fun _ J36=>RS.mvI rfl ?_));refine RS.oe ?_;refine nl J36 (C.ifd rfl (fun c37=>?_) (fun c37=>?_))
  ·refine sq fun _ J38=>RS.mvI rfl ?_;refine RS.ob (D.shr_u64 rfl rfl (by omega) (by constructor<;>omega)) (fun z39=>?_);refine RS.asI rfl (nl J38 ?_);simp only[e8];refine region (RS.mvI rfl ?_);refine RS.adi ?_;refine RS.asI rfl ?_;refine nl J35 (sq fun _ J40=>?_);refine RS.mvI rfl (RS.mvI rfl ?_);refine RS.cu V49 V5 ?_;refine RS.indexStr rfl rfl V9 (by refine⟨by omega,?_⟩;show _<((256:Nat):Int);omega) (fun v41 q41 r41=>?_);refine RS.nm ?_;simp only[lim]at r41;have ht:=S.tab_of q41 (by kernel_rfl) (by omega);refine RS.o (D.conv rfl V5 V3 (W.i64 (by omega))) ?_;refine RS.adi ?_;refine RS.asI rfl (nl J40 (wp_ret ?_));refine retI rfl rfl ?_;refine⟨_,rfl,hE,_,rfl,S.len_big n _ 3 (n / 65536 / 256) v41 (by show n / 65536 / 256=n / 16777216;omega) (by omega) (by omega) (by omega) (by omega) (by omega),by omega,by omega⟩
  refine wp_skip (J35 _ _ (sq fun _ J42=>RS.mvI rfl (RS.mvI rfl ?_)));refine RS.cu V49 V5 ?_;refine RS.indexStr rfl rfl V9 (by refine⟨by omega,?_⟩;show _<((256:Nat):Int);omega) (fun v43 q43 r43=>?_);refine RS.nm ?_;simp only[lim]at r43;have ht:=S.tab_of q43 (by kernel_rfl) (by omega);refine RS.o (D.conv rfl V5 V3 (W.i64 (by omega))) ?_;refine RS.adi ?_;refine RS.asI rfl (nl J42 (wp_ret ?_));refine retI rfl rfl ?_;refine⟨_,rfl,hE,_,rfl,S.len_big n _ 2 (n / 65536) v43 (by show n / 65536=n / 65536;omega) (by omega) (by omega) (by omega) (by omega) (by omega),by omega,by omega⟩
 refine wp_skip (J30 _ _ (wx fun _ J44=>sq fun _ J45=>RS.mvI rfl ?_));refine RS.oe ?_;refine nl J45 (C.ifd rfl (fun c46=>?_) (fun c46=>?_))
 ·refine sq fun _ J47=>RS.mvI rfl ?_;refine RS.ob (D.shr_u64 rfl rfl (by omega) (by constructor<;>omega)) (fun z48=>?_);refine RS.asI rfl (nl J47 ?_);simp only[e8];refine region (RS.mvI rfl ?_);refine RS.adi ?_;refine RS.asI rfl ?_;refine nl J44 (sq fun _ J49=>?_);refine RS.mvI rfl (RS.mvI rfl ?_);refine RS.cu V49 V5 ?_;refine RS.indexStr rfl rfl V9 (by refine⟨by omega,?_⟩;show _<((256:Nat):Int);omega) (fun v50 q50 r50=>?_);refine RS.nm ?_;simp only[lim]at r50;have ht:=S.tab_of q50 (by kernel_rfl) (by omega);refine RS.o (D.conv rfl V5 V3 (W.i64 (by omega))) ?_;refine RS.adi ?_;refine RS.asI rfl (nl J49 (wp_ret ?_));refine retI rfl rfl ?_;refine⟨_,rfl,hE,_,rfl,S.len_big n _ 1 (n / 256) v50 (by show n / 256=n / 256;omega) (by omega) (by omega) (by omega) (by omega) (by omega),by omega,by omega⟩
 refine wp_skip (J44 _ _ (sq fun _ J51=>RS.mvI rfl (RS.mvI rfl ?_)));refine RS.cu V49 V5 ?_;refine RS.indexStr rfl rfl V9 (by refine⟨by omega,?_⟩;show _<((256:Nat):Int);omega) (fun v52 q52 r52=>?_);refine RS.nm ?_;simp only[lim]at r52;have ht:=S.tab_of q52 (by kernel_rfl) (by omega);refine RS.o (D.conv rfl V5 V3 (W.i64 (by omega))) ?_;refine RS.adi ?_;refine RS.asI rfl (nl J51 (wp_ret ?_));refine retI rfl rfl ?_;refine⟨_,rfl,hE,_,rfl,S.len_big n _ 0 (n) v52 (by show n=n / 1;omega) (by omega) (by omega) (by omega) (by omega) (by omega),by omega,by omega⟩
theorem numW(n:Int)(hn:0≤n∧n<18446744073709551616)(w:World):
  Calls prog 97 #[.int .u64 n] w (Ret w fun v w'=>∃a' n' c',v= .slice a' n' c'∧IOwn w.heap.size w' 5 .u8 a' n' c' (S.numS n)):=by
 refine eE 38 func97 rfl rfl fun hE=>?_
 refine sAS rfl (wx fun _ J2=>sq fun _ J3=>RS.mvI rfl ?_);refine RS.o (D.le rfl rfl) ?_;refine nl J3 (C.ifd rfl (fun c4=>?_) (fun c4=>?_))
 ·have hs:=c4;refine sq fun _ J5=>RS.mvI rfl ?_;refine RS.cu V49 V5 ?_;refine RS.bs1 V63 T5 (fun b6 w6 e6 s6 x6 B6=>?_);refine RS.nm ?_;have O1:IOwn w.heap.size w6 5 .u8 (some ⟨b6,0,none⟩) 1 1 [_]:=IOwn.of_blk B6 rfl rfl (by omega) (.cons (by simp only[lim];omega) (.nil _)) (by decide);refine RS.asS rfl (nl J5 (wp_ret ?_));refine retS ?_;rw[S.numS_small n (by omega)];replace hE:=Ext.tr hE x6;exact⟨_,rfl,hE,_,_,_,rfl,O1⟩
 have hs:=c4;refine wp_skip (J2 _ _ (sq fun _ J7=>RS.mvI rfl ?_));refine RS.call E125 (len64 _ (by omega) _) rfl (fun v8 w8 x8 A8=>?_);have zw8:=x8.size;obtain⟨L,rfl,hL,hL1⟩:=A8;have hbl:=S.blen_le n;refine RS.nm ?_;refine RS.adi ?_;refine RS.o (D.quo rfl rfl (by omega) (by omega) (W.i64 (by omega))) ?_;refine RS.asI rfl (nl J7 (wx fun _ J9=>?_));rw[hL];refine region (RS.mvI rfl ?_);refine RS.adi ?_;refine RS.make rfl rfl V63 T5 (by omega) (by omega) (by omega) (fun b10 w10 e10 s10 x10 B10=>?_);refine RS.nm ?_;have zw10:=x10.size;have emk:((S.blen n:Int)+1).toNat*1=S.blen n+1:=by omega
 rw[emk,S.made_ints]at B10;have O1:IOwn w.heap.size w10 5 .u8 (some ⟨b10,0,none⟩) ((S.blen n:Int)+1).toNat ((S.blen n:Int)+1).toNat (List.replicate (S.blen n+1) 0):=IOwn.of_blk B10 rfl (by rw[List.length_replicate];omega) (by omega) (Bd.zeros _ _) (by omega);refine RS.asS rfl ?_;refine nl J9 (sq fun _ J11=>?_);refine RS.mvS rfl (RS.mvI rfl ?_);refine RS.adi ?_;refine RS.cu V3 V5 ?_;refine RS.o (D.indexAddr rfl rfl V63 C5 (by decide) rfl (by omega)) ?_;refine RS.storeI O1 rfl rfl C5 (by omega) (by simp only[lim];omega) (fun w12 y12 N12=>?_);have zw12:=y12.size;replace O1:=N12;refine nl J11 (wx fun _ J13=>sq fun _ J14=>RS.mvI rfl (RS.mvI rfl (nl J14 (wp_block ?_))));refine C.loop (A:=Int) (fun p=>[(24, .int .i64 p)]) [5,25,26,27,28,29,30,31,32,33,34,35,36,37] (fun p w'=>Pr (fun k=>k=b10) w12 w'∧((0≤p∧p≤(S.blen n:Int))∧IOwn w.heap.size w' 5 .u8 (some ⟨b10,0,none⟩) ((S.blen n:Int)+1).toNat ((S.blen n:Int)+1).toNat (S.numP n p.toNat))) (fun p=>(S.blen n - p.toNat)) 0 (by kernel_rfl) ?_ ?_
 ·refine⟨Pr.refl _ _,⟨by omega,by omega⟩,?_⟩;rw[show(0:Int).toNat=0 from rfl,←S.numP_first];exact O1
 rintro p j w15 ⟨x15,hI⟩;obtain⟨h1,O1⟩:=hI;refine C.nmU ?_;refine sq fun _ J16=>?_
 refine RS.ol ?_;refine nl J16 (wx fun _ J17=>C.ifd rfl (fun c18=>?_) (fun c18=>?_))
 ·refine wp_skip (J17 _ _ (wx fun _ J19=>wp_block (sq fun _ J20=>RS.mvI rfl (RS.asI rfl (nl J20 (region (RS.mvS rfl (RS.mvI rfl (RS.mvI rfl ?_)))))))));refine RS.o (D.sub rfl rfl (W.i64 (by omega))) ?_;refine RS.mvI rfl (RS.mvI rfl ?_);refine RS.o (D.mul rfl rfl (W.i64 (by omega))) ?_;refine RS.ob (D.shr_u64 rfl rfl (by omega) (by constructor<;>omega)) (fun z21=>?_);refine RS.o (D.conv rfl V49 V5 (W.u8m _)) ?_;refine RS.o (D.indexAddr rfl rfl V63 C5 (by decide) rfl (by omega)) ?_;refine RS.storeI O1 rfl rfl C5 (by omega) (by simp only[lim];omega) (fun w22 y22 N22=>?_);replace hE:=(((Ext.tr (Ext.tr hE x8) x10).trans y12.belo).trans x15.belo).trans y22.belo;replace x15:=x15.stno y22;replace O1:=N22;refine nl J19 (region ?_);refine RS.adi ?_;refine RS.mvI rfl (RS.nil ?_);change Nx _ _ _ _ _ _ _ _;refine C.next (p+1) ⟨rfl,trivial⟩ (by kernel_rfl) ?_ ?_
  ·refine⟨x15,⟨by omega,by omega⟩,?_⟩;rw[show(p+1).toNat=p.toNat+1 by omega,←S.numP_step n p.toNat (by omega)];rw[show S.blen n - p.toNat=((S.blen n:Int) - p).toNat by omega,show 8*p.toNat=(8*p).toNat by omega];exact O1
  omega
 refine wp_exit (J13 _ _ (sq fun _ J23=>RS.mvS rfl (RS.asS rfl (nl J23 (wp_ret ?_)))));refine retS ?_;rw[show p.toNat=S.blen n by omega,S.numP_all n (by omega)]at O1;replace hE:=((Ext.tr (Ext.tr hE x8) x10).trans y12.belo).trans x15.belo;exact⟨_,rfl,hE,_,_,_,rfl,O1⟩
theorem numR(n:Int)(hn:0≤n∧n<18446744073709551616)(w:World):
  Calls prog 148 #[.int .u64 n] w (Ret w fun v w'=>∃a' n' c',v= .slice a' n' c'∧IOwn w.heap.size w' 5 .u8 a' n' c' (S.numS n)):=by
 refine eE 40 func148 rfl rfl fun hE=>?_
 refine sAS rfl (wx fun _ J2=>sq fun _ J3=>RS.mvI rfl ?_);refine RS.o (D.le rfl rfl) ?_;refine nl J3 (C.ifd rfl (fun c4=>?_) (fun c4=>?_))
 ·have hs:=c4;refine sq fun _ J5=>RS.mvI rfl ?_;refine RS.cu V49 V5 ?_;refine RS.bs1 V63 T5 (fun b6 w6 e6 s6 x6 B6=>?_);refine RS.nm ?_;have O1:IOwn w.heap.size w6 5 .u8 (some ⟨b6,0,none⟩) 1 1 [_]:=IOwn.of_blk B6 rfl rfl (by omega) (.cons (by simp only[lim];omega) (.nil _)) (by decide);refine RS.asS rfl (nl J5 (wp_ret ?_));refine retS ?_;rw[S.numS_small n (by omega)];replace hE:=Ext.tr hE x6;exact⟨_,rfl,hE,_,_,_,rfl,O1⟩
 have hs:=c4;refine wp_skip (J2 _ _ (sAS rfl (wx fun _ J8=>wp_block ?_)));refine C.loop (A:=Int×Option Addr×Nat×Nat×List Int) (fun p=>[(0, .int .u64 p.1),(3, .slice p.2.1 p.2.2.1 p.2.2.2.1)]) [11,12,13,14,15,16,17,18,19,20] (fun p w'=>Pr (fun k=>w.heap.size≤k) w w'∧((0≤p.1∧p.1<18446744073709551616)∧p.2.2.1≤8∧p.2.2.2.2++S.leK (S.blen p.1) p.1=S.leK (S.blen n) n∧IOwn w.heap.size w' 5 .u8 p.2.1 p.2.2.1 p.2.2.2.1 p.2.2.2.2)) (fun p=>p.1.toNat) (n,none,0,0,[]) (by kernel_rfl) ?_ ?_
 ·exact⟨Pr.refl _ _,hn,by dsimp only;omega,rfl,IOwn.nil _ _ _ _⟩
 rintro p j w9 ⟨x9,hI⟩;have zw9:=x9.size;obtain⟨m,ao,no,co,ds⟩:=p;dsimp only at hI;obtain⟨h1,hn8,h2,O1⟩:=hI;have hdl:=O1.len;refine C.nmU ?_;refine wx fun _ J10=>sq fun _ J11=>RS.mvI rfl ?_;refine RS.og ?_;refine nl J11 ?_;replace hE:=hE.trans x9.belo;refine C.ifd rfl (fun c12=>?_) (fun c12=>?_)
 ·refine wp_skip (J10 _ _ (wp_block (sq fun _ J13=>RS.mvS rfl (RS.mvI rfl ?_))));refine RS.o (D.rem rfl rfl (by omega) (by omega)) ?_;refine RS.cu V49 V5 ?_;refine RS.bs1 V63 T5 (fun b14 w14 e14 s14 x14 B14=>?_);refine RS.nm ?_;have zw14:=x14.size;have Q1:IRow .u8 (fun k=>k=b14) w14 (some ⟨b14,0,none⟩) 1 [_]:=IRow.of_blk B14 rfl rfl rfl (.cons (by simp only[lim];omega) (.nil _));replace O1:=O1.ext x14;refine RS.appendI O1 Q1 rfl rfl V63 T5 rfl (by omega) (by decide) (by omega) (fun a15 c15 w15 N15 x15=>?_);refine RS.nm ?_;replace hE:=Ext.tr hE x14;replace hE:=hE.trans (x15.belQ (fun _ h=>(O1.lo _ h).1));replace x9:=x9.ext x14;replace x9:=x9.prnQ x15 (fun _ h=>(O1.lo _ h).1);have zw15:=x15.size;replace O1:=N15;refine RS.asS rfl (nl J13 (region (RS.mvI rfl ?_)));refine RS.o (D.quo rfl rfl (by omega) (by omega) (by first|exact W.u64 (by omega)|exact W.u64m _)) ?_;refine RS.asI rfl (RS.nil ?_);change Nx _ _ _ _ _ _ _ _;refine C.next (m / 256,a15,no+1,c15,ds++[m % 256]) ⟨rfl,rfl,trivial⟩ (by kernel_rfl) ?_ ?_
  ·have h2b:=congrArg List.length h2;rw[S.leK_step m (by omega) (by omega)]at h2 h2b;rw[List.length_append,List.length_cons,S.leK_len,S.leK_len]at h2b;have hb8:=S.blen_le n;refine⟨x9,⟨by dsimp only;omega,by dsimp only;omega⟩,by dsimp only;omega,?_,O1⟩;dsimp only;rw[List.append_assoc];exact h2
  dsimp only;omega
 have hz:m=0:=by omega
 rw[hz,S.blen_zero]at h2;have h3:ds=S.leK (S.blen n) n:=by rw[←h2];exact(List.append_nil ds).symm
 rw[h3]at O1;have hol:=O1.len;rw[S.leK_len]at hol;have hbl:=S.blen_le n;refine wp_exit (J8 _ _ (wx fun _ J16=>?_));have R1:=O1.row.weaken (T:=fun k=>k<w9.heap.size) (fun k hk _=>hk);subst hol;refine region (RS.mvS rfl ?_);refine RS.ln V63 ?_;refine RS.adi ?_;refine RS.cu V3 V5 ?_;refine RS.bs1 V63 T5 (fun b17 w17 e17 s17 x17 B17=>?_);refine RS.nm ?_;have O2:IOwn w9.heap.size w17 5 .u8 (some ⟨b17,0,none⟩) 1 1 [_]:=IOwn.of_blk B17 rfl rfl (by omega) (.cons (by simp only[lim];omega) (.nil _)) (by decide);refine RS.asS rfl (nl J16 (wx fun _ J18=>sq fun _ J19=>RS.mvS rfl ?_));refine RS.ln V63 ?_;refine RS.o (D.sub rfl rfl (W.i64 (by omega))) ?_;refine RS.asI rfl (nl J19 (wp_block ?_));refine C.loop (A:=Int×Option Addr×Nat×Nat) (fun p=>[(4, .slice p.2.1 p.2.2.1 p.2.2.2),(5, .int .i64 p.1)]) [29,30,31,32,33,34,35,36,37,38,39] (fun p w'=>Pr (fun k=>w9.heap.size≤k) w17 w'∧((-1≤p.1∧p.1<(S.blen n:Int))∧IOwn w9.heap.size w' 5 .u8 p.2.1 p.2.2.1 p.2.2.2 ((247+(S.blen n:Int))::((S.leK (S.blen n) n).drop (p.1+1).toNat).reverse))) (fun p=>(p.1+1).toNat) ((S.blen n:Int) - 1,some ⟨b17,0,none⟩,1,1) (by kernel_rfl) ?_ ?_
 ·refine⟨Pr.refl _ _,⟨by dsimp only;omega,by dsimp only;omega⟩,?_⟩;dsimp only;rw[List.drop_eq_nil_of_le (by rw[S.leK_len];omega)];exact O2
 rintro p j w20 ⟨x20,hI⟩;have zw20:=x20.size;obtain⟨i,a2,n2,c2⟩:=p;dsimp only at hI;obtain⟨g1,O2⟩:=hI;have hol2:=O2.len;rw[List.length_cons,List.length_reverse,List.length_drop,S.leK_len]at hol2;refine C.nmU ?_;refine wx fun _ J21=>sq fun _ J22=>RS.mvI rfl ?_;refine RS.oe ?_;refine nl J22 ?_;replace hE:=(Ext.tr hE x17).trans x20.belo;refine C.ifd rfl (fun c23=>?_) (fun c23=>?_)
 ·refine wp_skip (J21 _ _ (wx fun _ J24=>wp_block (region (RS.mvS rfl (RS.mvS rfl (RS.mvI rfl ?_))))));replace R1:=(R1.ext x17).pro x20;refine RS.idx R1 rfl rfl V63 C5 (by omega) (fun b25 o25 v25 h25 q25 r25=>?_);refine RS.nm ?_;simp only[lim]at r25;have qd:=q25;refine RS.o (D.load rfl V5 rfl (h25)) ?_;refine RS.bs1 V63 T5 (fun b26 w26 e26 s26 x26 B26=>?_);refine RS.nm ?_;have Q1:IRow .u8 (fun k=>k=b26) w26 (some ⟨b26,0,none⟩) 1 [_]:=IRow.of_blk B26 rfl rfl rfl (.cons (by simp only[lim];omega) (.nil _));replace O2:=O2.ext x26;refine RS.appendI O2 Q1 rfl rfl V63 T5 rfl (by omega) (by decide) (by omega) (fun a27 c27 w27 N27 x27=>?_);refine RS.nm ?_;replace hE:=Ext.tr hE x26;replace hE:=hE.trans (x27.belQ (fun _ h=>(O2.lo _ h).1));replace x20:=x20.ext x26;replace x20:=x20.prnQ x27 (fun _ h=>(O2.lo _ h).1);replace R1:=R1.ext x26;replace R1:=R1.prQ x27 (fun _ h=>(O2.lo _ h).1);replace O2:=N27;refine RS.asS rfl (nl J24 (region (RS.mvI rfl ?_)));refine RS.o (D.sub rfl rfl (W.i64 (by omega))) ?_;refine RS.asI rfl (RS.nil ?_);change Nx _ _ _ _ _ _ _ _;refine C.next (i - 1,_,_,_) ⟨rfl,rfl,trivial⟩ (by kernel_rfl) ?_ ?_
  ·refine⟨x20,⟨by dsimp only;omega,by dsimp only;omega⟩,?_⟩;dsimp only;have ed:(S.leK (S.blen n) n).drop (i - 1+1).toNat=v25::(S.leK (S.blen n) n).drop (i+1).toNat:=by rw[show(i - 1+1).toNat=i.toNat by omega,List.drop_eq_getElem_cons (by rw[S.leK_len];omega),show i.toNat+1=(i+1).toNat by omega,qd,List.getD_eq_getElem?_getD,List.getElem?_eq_getElem (by rw[S.leK_len];omega)];rfl
   rw[ed,List.reverse_cons];exact O2
  dsimp only;omega
 refine wp_exit (J18 _ _ (sq fun _ J28=>RS.mvS rfl (RS.asS rfl (nl J28 (wp_ret ?_)))));refine retS ?_;rw[show i= -1 by omega,show((-1:Int)+1).toNat=0 from rfl,List.drop_zero,←S.numS_large n (by omega)]at O2;exact⟨_,rfl,hE,_,_,_,rfl,O2.base (fun k hk=>by have:=O2.lo k hk;omega)⟩
theorem bytesW{S0:Nat→Prop}(a:Option Addr)(n c:Nat)(xs:List Int)(w:World)(R0:IRow .u8 S0 w a n xs)(hn:n≤10000):
  Calls prog 98 #[.slice a n c] w (Ret w fun v w'=>∃a' n' c',v= .tuple #[.slice a' n' c', .int .i64 0]∧IOwn w.heap.size w' 5 .u8 a' n' c' (S.numS n++xs)):=by
 replace R0:=R0.weaken (T:=fun k=>k<w.heap.size) (fun k hk _=>hk);refine eE 12 func98 rfl rfl fun hE=>?_
 refine sq fun _ J1=>RS.asS rfl (RS.asI rfl (nl J1 (wx fun _ J2=>sq fun _ J3=>RS.mvS rfl ?_)));refine RS.ln V63 ?_;refine RS.og ?_;refine nl J3 (C.ifd rfl (fun c4=>?_) (fun c4=>?_))
 ·exact absurd c4 (by omega)
 refine wp_skip (J2 _ _ (sq fun _ J5=>RS.mvS rfl ?_));refine RS.ln V63 ?_;refine RS.cw V3 V49 ?_;refine RS.call E97 (numW _ (by omega) _) rfl (fun v6 w6 x6 A6=>?_);have zw6:=x6.size;obtain⟨a6,n6,c6,rfl,O1⟩:=A6;have hnl:=S.numS_len (n:Int);have hol:=O1.len;refine RS.nm ?_;refine RS.mvS rfl ?_;replace R0:=R0.ext x6;refine RS.appendI O1 R0 rfl rfl V63 T5 rfl (by omega) (by decide) (by omega) (fun a7 c7 w7 N7 x7=>?_);refine RS.nm ?_;replace hE:=Ext.tr hE x6;replace hE:=hE.trans (x7.belQ (fun _ h=>(O1.lo _ h).1));replace R0:=R0.prQ x7 (fun _ h=>(O1.lo _ h).1);replace O1:=N7;refine RS.asS rfl (RS.asI rfl (nl J5 (wp_ret ?_)));refine retSI ?_;exact⟨_,rfl,hE,_,_,_,rfl,O1⟩
theorem textR{S0:Nat→Prop}(a:Option Addr)(n c:Nat)(xs:List Int)(w:World)(R0:IRow .u8 S0 w a n xs)(hn:n≤10000):
  Calls prog 155 #[.slice a n c] w (Ret w fun v w'=>∃a' n' c',v= .slice a' n' c'∧IOwn w.heap.size w' 5 .u8 a' n' c' (S.numS n++xs)):=by
 replace R0:=R0.weaken (T:=fun k=>k<w.heap.size) (fun k hk _=>hk);refine eE 8 func155 rfl rfl fun hE=>?_
 refine sq fun _ J1=>RS.asS rfl ?_;refine nl J1 (sq fun _ J2=>?_);refine RS.mvS rfl ?_;refine RS.ln V63 ?_;refine RS.cw V3 V49 ?_;refine RS.call E148 (numR _ (by omega) _) rfl (fun v3 w3 x3 A3=>?_);have zw3:=x3.size;obtain⟨a3,n3,c3,rfl,O1⟩:=A3;have hnl:=S.numS_len (n:Int);have hol:=O1.len;refine RS.nm ?_;refine RS.mvS rfl ?_;replace R0:=R0.ext x3;refine RS.appendI O1 R0 rfl rfl V63 T5 rfl (by omega) (by decide) (by omega) (fun a4 c4 w4 N4 x4=>?_);refine RS.nm ?_;replace hE:=Ext.tr hE x3;replace hE:=hE.trans (x4.belQ (fun _ h=>(O1.lo _ h).1));replace R0:=R0.prQ x4 (fun _ h=>(O1.lo _ h).1);replace O1:=N4;refine RS.asS rfl (nl J2 (wp_ret ?_));refine retS ?_;exact⟨_,rfl,hE,_,_,_,rfl,O1⟩
theorem signedW(n:Int)(hn: -9223372036854775808≤n∧n≤9223372036854775807)(w:World):
  Calls prog 126 #[.int .i64 n] w (Ret w fun v w'=>∃a' n' c',v= .slice a' n' c'∧IOwn w.heap.size w' 5 .u8 a' n' c' (S.numS (S.zig n))):=by
 have hz:=S.zig_bd n hn;have hze:=S.zig_eq n hn;refine eE 10 func126 rfl rfl fun hE=>?_
 refine sq fun _ J1=>RS.asS rfl ?_;refine nl J1 (sq fun _ J2=>?_);refine RS.mvI rfl ?_;refine RS.o (D.conv rfl V2 V49 (W.u64m _)) ?_;refine RS.o (D.shl rfl rfl (by constructor<;>(try simp only[IntKind.bits])<;>omega) (W.u64m _)) ?_;refine RS.mvI rfl ?_;refine RS.o (D.shr rfl rfl (by constructor<;>(try simp only[IntKind.bits])<;>omega)) ?_;refine RS.o (D.conv rfl V2 V49 (W.u64m _)) ?_;refine RS.ob (D.bxor_u64 rfl rfl (by omega) (by omega)) (fun z3=>?_);rw[hze];refine RS.call E97 (numW _ (by omega) _) rfl (fun v4 w4 x4 A4=>?_);obtain⟨a4,n4,c4,rfl,O1⟩:=A4;refine RS.nm ?_;refine RS.asS rfl (nl J2 (wp_ret ?_));refine retS ?_;replace hE:=Ext.tr hE x4;exact⟨_,rfl,hE,_,_,_,rfl,O1⟩
theorem signedR(n:Int)(hn: -9223372036854775808≤n∧n≤9223372036854775807)(w:World):
  Calls prog 176 #[.int .i64 n] w (Ret w fun v w'=>∃a' n' c',v= .slice a' n' c'∧IOwn w.heap.size w' 5 .u8 a' n' c' (S.numS (S.zig n))):=by
 unfold S.zig;refine eE 15 func176 rfl rfl fun hE=>?_
 refine sAS rfl (wx fun _ J2=>sq fun _ J3=>RS.mvI rfl ?_);refine RS.oe ?_;refine nl J3 (C.ifd rfl (fun c4=>?_) (fun c4=>?_))
 ·have hc:=c4;refine sq fun _ J5=>RS.mvI rfl ?_;refine RS.cw V2 V49 ?_;refine RS.o (D.mul rfl rfl (W.u64 (by omega))) ?_;refine RS.call E148 (numR _ (by omega) _) rfl (fun v6 w6 x6 A6=>?_);obtain⟨a6,n6,c6,rfl,O1⟩:=A6;refine RS.nm ?_;refine RS.asS rfl (nl J5 (wp_ret ?_));refine retS ?_;rw[if_pos hc];replace hE:=Ext.tr hE x6;refine⟨_,rfl,hE,_,_,_,rfl,?_⟩;first|exact O1|(rw[show 2*n=n*2 by omega];exact O1)
 have hc:=c4;refine wp_skip (J2 _ _ (sq fun _ J7=>RS.mvI rfl ?_));refine RS.adi ?_;refine RS.o (D.neg rfl (W.i64 (by omega))) ?_;refine RS.cw V2 V49 ?_;refine RS.o (D.mul rfl rfl (W.u64 (by omega))) ?_;refine RS.o (D.add rfl rfl (W.u64 (by omega))) ?_;refine RS.call E148 (numR _ (by omega) _) rfl (fun v8 w8 x8 A8=>?_);obtain⟨a8,n8,c8,rfl,O1⟩:=A8;refine RS.nm ?_;refine RS.asS rfl (nl J7 (wp_ret ?_));refine retS ?_;rw[if_neg hc];replace hE:=Ext.tr hE x8;refine⟨_,rfl,hE,_,_,_,rfl,?_⟩;rw[show -2*n - 1=2*(0 - (n+1))+1 by omega];exact O1
theorem T3:TI prog 3 1 8 [.int .i64 0]:=by
 have h:(prog.info? 3).map (fun i=>(i.size,i.bytes,i.zero))=some (1,8,some (.int .i64 0)):=by kernel_rfl
 exact TI.of h rfl
theorem E91:Enters prog 91:= .mk func91 (by kernel_rfl) rfl
theorem E116:Enters prog 116:= .mk func116 (by kernel_rfl) rfl
theorem E117:Enters prog 117:= .mk func117 (by kernel_rfl) rfl
theorem E157:Enters prog 157:= .mk func157 (by kernel_rfl) rfl
theorem risingC(xs:List Int)(X:Arr .u8 32 xs)(v:Int)(a:Option Addr)(n c:Nat)(ids:List Int)(bA bB:Nat)(TA TB:TypeId)(w:World)(BA:Blk w bA [.int .i64 v] TA)(BB:Blk w bB [.slice a n c] TB)(D0:WRow .u8 32 (fun k=>k<bA) w a n ids)(hne:bB<bA)(hc:n≤c)(hn:n≤1000)(hv:0≤v∧v<n):
  Calls prog 117 #[.agg (ints .u8 xs).toArray, .pointer (some ⟨bA,0,none⟩), .pointer (some ⟨bB,0,none⟩)] w (fun e w'=>∃r,e= .returned (.bool r)∧Pr (fun k=>k=bA) w w'∧Blk w' bA [.int .i64 (v+1)] TA∧(r=true↔(v+1<n∧0≤S.cmpS (S.idAt ids v.toNat) (S.idAt ids (v+1).toNat)))):=by
 have hE:=Pr.refl (fun k=>k=bA) w;refine enterU 21 func117 rfl rfl ?_;refine sq fun _ J1=>?_
 refine RS.box rfl rfl (fun b2 w2 e2 s2 x2 B2=>?_);refine RS.nm ?_;clear B2;refine RS.asB rfl ?_;refine nl J1 (sq fun _ J3=>?_);replace BA:=BA.ext x2;refine RS.ld V3 BA ?_;refine RS.adi ?_;refine RS.store rfl (v:= .int _ _) rfl C3 rfl BA rfl (fun w4 y4 N4=>?_);replace hE:=hE.ext x2;replace hE:=hE.stno y4;replace BA:=N4;refine nl J3 (wx fun _ J5=>?_);refine regionX Ext [(0, .q),(1, .q),(2, .q),(3, .q),(4, .q),(5, .q),(6, .q),(7, .q),(8, .q),(9, .q),(10, .q),(11, .q),(12, .q),(13, .q),(14, .e),(15, .q),(16, .q),(17, .q)] mixed Ext.refl (fun h k=>h.tr k) (by kernel_rfl) (fun w6 x6=>?_);replace BA:=BA.ext x6;refine RX.o (fun w' hw=>D.load rfl V3 rfl ((BA.ext hw).cell rfl)) ?_;replace BB:=((BB.ext x2).sto y4).ext x6;refine RX.o (fun w' hw=>D.load rfl V48 rfl ((BB.ext hw).cell rfl)) ?_;refine RX.o (fun w' hw=>D.len rfl V48) ?_;refine RX.o (fun w' hw=>D.lt rfl rfl) ?_;refine RX.mvB rfl ?_;replace hE:=hE.ext x6;refine RX.splitd 11 rfl rfl (fun c7=>?_) (fun c7=>?_)
 ·refine RX.nm ?_;refine RX.wt 11 ?_;refine RX.o (fun w' hw=>D.load rfl V48 rfl ((BB.ext hw).cell rfl)) ?_;refine RX.wt 11 ?_;refine RX.o (fun w' hw=>D.load rfl V3 rfl ((BA.ext hw).cell rfl)) ?_;refine RX.wt 11 ?_;refine RX.o (fun w' hw=>D.sub rfl rfl (W.i64 (by omega))) ?_;refine RX.wt 11 ?_;replace D0:=((D0.ext x2).sto y4).ext x6;refine RX.idxW (fun _ h=>h) D0 rfl rfl V48 C59 (by decide) (by omega) (fun b8 o8 h8 q8 r8=>?_);refine RX.nm ?_;have r1:=r8;refine RX.wt 11 ?_;refine RX.o (fun w' hw=>D.loadW rfl V59 rfl C59 (by decide) r8 (h8 w' hw)) ?_;refine RX.wt 11 ?_;refine RX.o (fun w' hw=>D.load rfl V48 rfl ((BB.ext hw).cell rfl)) ?_;refine RX.wt 11 ?_;refine RX.o (fun w' hw=>D.load rfl V3 rfl ((BA.ext hw).cell rfl)) ?_;refine RX.wt 11 ?_;refine RX.idxW (fun _ h=>h) D0 rfl rfl V48 C59 (by decide) (by omega) (fun b9 o9 h9 q9 r9=>?_);refine RX.nm ?_;have r2:=r9;refine RX.wt 11 ?_;refine RX.o (fun w' hw=>D.loadW rfl V59 rfl C59 (by decide) r9 (h9 w' hw)) ?_;refine RX.wt 11 ?_;refine RX.eff ?_;refine RS.call E91 (dcmp _ _ r1 r2 _) rfl (fun v10 w10 x10 A10=>?_);subst A10;refine RS.nm ?_;refine RS.nil ⟨x10,?_⟩;refine RX.wt 11 ?_;refine RX.o (fun w' hw=>D.ge rfl rfl) ?_;refine RX.pick (v:= .bool _) rfl rfl ?_;refine RX.assign (v:= .bool _) rfl ?_;refine RX.nil (J5 _ _ ?_);refine wp_ret ?_;change bodyPost prog Tryz.f117 (fun e w'=>∃r,e= .returned (.bool r)∧Pr (fun k=>k=bA) w w'∧Blk w' bA [.int .i64 (v+1)] TA∧(r=true↔(v+1<n∧0≤S.cmpS (S.idAt ids v.toNat) (S.idAt ids (v+1).toNat)))) .ret _ _;refine retB rfl rfl ?_;replace hE:=hE.ext x10;replace BA:=BA.ext x10;refine⟨_,rfl,hE,BA,?_⟩;rw[decide_eq_true_iff,show v+1 - 1=v by omega];exact⟨fun h=>⟨by omega,h⟩,fun h=>h.2⟩
 refine RX.nm ?_;refine RX.skF 11 ?_;refine RX.skF 11 ?_;refine RX.skF 11 ?_;refine RX.skF 11 ?_;refine RX.skF 11 ?_;refine RX.skF 11 ?_;refine RX.skF 11 ?_;refine RX.skF 11 ?_;refine RX.skF 11 ?_;refine RX.skF 11 ?_;refine RX.skF 11 ?_;refine RX.pick (v:= .bool false) rfl rfl ?_;refine RX.assign (v:= .bool _) rfl ?_;refine RX.nil (J5 _ _ ?_);refine wp_ret ?_;change bodyPost prog Tryz.f117 (fun e w'=>∃r,e= .returned (.bool r)∧Pr (fun k=>k=bA) w w'∧Blk w' bA [.int .i64 (v+1)] TA∧(r=true↔(v+1<n∧0≤S.cmpS (S.idAt ids v.toNat) (S.idAt ids (v+1).toNat)))) .ret _ _;refine retB rfl rfl ?_;refine⟨_,rfl,hE,BA,?_⟩;constructor
 ·intro h;cases h
 intro h;omega
theorem indexID(a:Option Addr)(n c:Nat)(ids:List Int)(bA bB:Nat)(TA TB:TypeId)(w:World)(BA:Blk w bA [.int .i64 0] TA)(BB:Blk w bB [.slice a n c] TB)(D0:WRow .u8 32 (fun k=>k<bA) w a n ids)(hne:bB<bA)(hc:n≤c)(hn:n≤1000):
  Calls prog 157 #[.slice a n c, .func (.func 117) #[] #[.pointer (some ⟨bA,0,none⟩), .pointer (some ⟨bB,0,none⟩)]] w (fun e w'=>∃j,e= .returned (.int .i64 j)∧Pr (fun k=>k=bA) w w'∧(j<0↔S.Rising n ids)):=by
 have hE:=Pr.refl (fun k=>k=bA) w;refine enterU 17 func157 rfl rfl ?_;refine sAI rfl (wx fun _ J2=>sq fun _ J3=>RS.mvS rfl ?_);refine RS.ln V48 ?_;refine RS.mvI rfl (nl J3 (wp_block ?_));refine C.loop (A:=Int) (fun p=>[(8, .int .i64 p)]) [4,5,9,10,11,12,13,14,15,16,17,18] (fun p w'=>Pr (fun k=>k=bA) w w'∧((0≤p∧p≤n)∧Blk w' bA [.int .i64 p] TA∧(∀j,j<p.toNat→j<n - 1→S.cmpS (S.idAt ids j) (S.idAt ids (j+1))<0))) (fun p=>(n - p.toNat)) 0 (by kernel_rfl) ?_ ?_
 ·exact⟨Pr.refl _ _,⟨by omega,by omega⟩,BA,fun j hj=>by omega⟩
 rintro p j w4 ⟨x4,hI⟩;replace hE:=hE.prno x4;obtain⟨h1,BA,h2⟩:=hI;refine C.nmU ?_;refine sq fun _ J5=>?_
 refine RS.ol ?_;refine nl J5 (wx fun _ J6=>C.ifd rfl (fun c7=>?_) (fun c7=>?_))
 ·refine wp_skip (J6 _ _ (wx fun _ J8=>wp_block (sq fun _ J9=>RS.mvI rfl (RS.asI rfl ?_))));refine nl J9 (sq fun _ J10=>?_);refine RS.move (v:= .func _ _ _) rfl ?_;refine RS.mvS rfl (RS.mvI rfl ?_);replace D0:=D0.pro x4;refine RS.idxW D0 rfl rfl V48 C59 (by decide) (by omega) (fun b11 o11 h11 q11 r11=>?_);refine RS.nm ?_;have r1:=r11;refine RS.o (D.loadW rfl V59 rfl C59 (by decide) r11 h11) ?_;replace BB:=BB.pro x4;refine RS.callv E117 (risingC _ r1 _ _ _ _ _ _ _ _ _ _ BA BB D0 hne hc hn (by omega)) rfl rfl (fun e12 w12 A12=>?_);obtain⟨r12,rfl,X12,N12,hr⟩:=A12;refine⟨_,rfl,?_⟩;refine RS.nm ?_;replace hE:=hE.prno X12;replace x4:=x4.prno X12;replace BA:=N12;refine nl J10 ?_;refine C.ifb rfl (fun c13=>?_) (fun c13=>?_)
  ·have hrt:=c13;refine sq fun _ J14=>RS.mvI rfl (RS.asI rfl (nl J14 (wp_ret ?_)));change bodyPost prog Tryz.f157 (fun e w'=>∃j,e= .returned (.int .i64 j)∧Pr (fun k=>k=bA) w w'∧(j<0↔S.Rising n ids)) .ret _ _;refine retI rfl rfl ?_;have h3:=hr.1 hrt;refine⟨_,rfl,hE,⟨fun h=>by omega,fun h=>?_⟩⟩;have:=h p.toNat (by omega);rw[show(p+1).toNat=p.toNat+1 by omega]at h3;omega
  have hrf:=c13;refine wp_skip (J8 _ _ (region ?_));refine RS.adi ?_;refine RS.mvI rfl (RS.nil ?_);change Nx _ _ _ _ _ _ _ _;refine C.next (p+1) ⟨rfl,trivial⟩ (by kernel_rfl) ?_ ?_
  ·refine⟨x4,⟨by omega,by omega⟩,BA,fun j hj hj2=>?_⟩;by_cases hjp:j<p.toNat
   ·exact h2 j hjp hj2
   have ej:j=p.toNat:=by omega
   subst ej;by_cases hb:S.cmpS (S.idAt ids p.toNat) (S.idAt ids (p.toNat+1))<0
   ·exact hb
   have:=hr.2 ⟨by omega,by rw[show(p+1).toNat=p.toNat+1 by omega];omega⟩;rw[hrf]at this;cases this
  omega
 refine wp_exit (J2 _ _ (sAI rfl (wp_ret ?_)));change bodyPost prog Tryz.f157 (fun e w'=>∃j,e= .returned (.int .i64 j)∧Pr (fun k=>k=bA) w w'∧(j<0↔S.Rising n ids)) .ret _ _;refine retI rfl rfl ?_;refine⟨_,rfl,hE,⟨fun _ j hj=>h2 j (by omega) hj,fun _=>by decide⟩⟩
theorem containsID(a:Option Addr)(n c:Nat)(ids:List Int)(bA bB:Nat)(TA TB:TypeId)(w:World)(BA:Blk w bA [.int .i64 0] TA)(BB:Blk w bB [.slice a n c] TB)(D0:WRow .u8 32 (fun k=>k<bA) w a n ids)(hne:bB<bA)(hc:n≤c)(hn:n≤1000):
  Calls prog 116 #[.slice a n c, .func (.func 117) #[] #[.pointer (some ⟨bA,0,none⟩), .pointer (some ⟨bB,0,none⟩)]] w (fun e w'=>∃r,e= .returned (.bool r)∧Pr (fun k=>k=bA) w w'∧(r=true↔¬S.Rising n ids)):=by
 have hE:=Pr.refl (fun k=>k=bA) w;refine enterU 7 func116 rfl rfl ?_;refine sq fun _ J1=>RS.asB rfl ?_;refine nl J1 (sq fun _ J2=>?_);refine RS.mvS rfl ?_;refine RS.move (v:= .func _ _ _) rfl ?_;refine RS.callx E157 (indexID _ _ _ _ _ _ _ _ _ BA BB D0 hne hc hn) rfl (fun e3 w3 A3=>?_);obtain⟨jr,rfl,X3,hr⟩:=A3;refine⟨_,rfl,?_⟩;refine RS.nm ?_;replace hE:=hE.prno X3;refine RS.oe ?_;refine RS.asB rfl (nl J2 (wp_ret ?_));change bodyPost prog Tryz.f116 (fun e w'=>∃r,e= .returned (.bool r)∧Pr (fun k=>k=bA) w w'∧(r=true↔¬S.Rising n ids)) .ret _ _;refine retB rfl rfl ?_;refine⟨_,rfl,hE,?_⟩;rw[decide_eq_true_iff];have hj:=hr;constructor
 ·intro h h2;have:=hj.2 h2;omega
 intro h;by_cases h0:0≤jr
 ·exact h0
 exact(h (hj.1 (by omega))).elim
theorem risingW{S0:Nat→Prop}(a:Option Addr)(n c:Nat)(ids:List Int)(w:World)(D0:WRow .u8 32 S0 w a n ids)(hc:n≤c)(hn:n≤1000):
  Calls prog 86 #[.slice a n c] w (Ret w fun v _=>v= .bool (decide (S.Rising n ids))):=by
 replace D0:=D0.weaken (T:=fun k=>k<w.heap.size) (fun k hk _=>hk);refine eE 7 func86 rfl rfl fun hE=>?_
 refine sq fun _ J1=>?_
 refine RS.box rfl rfl (fun b2 w2 e2 s2 x2 B2=>?_);refine RS.nm ?_;refine RS.asB rfl ?_;refine nl J1 (sq fun _ J3=>?_);refine RS.alloc T3 (fun b4 w4 e4 s4 x4 B4=>?_);refine RS.nm ?_;refine RS.store rfl (v:= .int _ _) rfl C3 rfl B4 rfl (fun w5 y5 N5=>?_);have zw5:=y5.size;replace B4:=N5;refine nl J3 (sq fun _ J6=>?_);replace B2:=(B2.ext x4).sto y5;refine RS.ld V48 B2 ?_;refine RS.o (D.func (fs:=[]) (cs:=[.pointer _, .pointer _]) rfl rfl) ?_;replace D0:=((D0.ext x2).ext x4).sto y5;refine RS.callx E116 (containsID _ _ _ _ _ _ _ _ _ B4 B2 (D0.weaken (T:=fun k=>k<b4) (fun k _ h=>by omega)) (by omega) hc hn) rfl (fun e7 w7 A7=>?_);obtain⟨r,rfl,X7,hr⟩:=A7;refine⟨_,rfl,?_⟩;refine RS.nm ?_;refine RS.o (D.not rfl) ?_;refine RS.asB rfl (nl J6 (wp_ret ?_));refine retB rfl rfl ?_;replace hE:=((Ext.tr (Ext.tr hE x2) x4).trans y5.belo).trans X7.belo;refine⟨_,rfl,hE,congrArg Value.bool ?_⟩;by_cases h:S.Rising n ids
 ·rw[decide_eq_true h];cases hb:r
  ·rfl
  exact(hr.1 hb h).elim
 rw[decide_eq_false h,hr.2 h];rfl
theorem E86:Enters prog 86:= .mk func86 (by kernel_rfl) rfl
theorem E140:Enters prog 140:= .mk func140 (by kernel_rfl) rfl
theorem idsW{S0:Nat→Prop}(a:Option Addr)(n c:Nat)(ids:List Int)(w:World)(D0:WRow .u8 32 S0 w a n ids)(hc:n≤c)(hn:n≤60)(hr:S.Rising n ids):
  Calls prog 95 #[.slice a n c] w (Ret w fun v w'=>∃a' n' c',v= .tuple #[.slice a' n' c', .int .i64 0]∧IOwn w.heap.size w' 5 .u8 a' n' c' (S.listS n ids)):=by
 replace D0:=D0.weaken (T:=fun k=>k<w.heap.size) (fun k hk _=>hk);refine eE 27 func95 rfl rfl fun hE=>?_
 refine sq fun _ J1=>RS.asS rfl (RS.asI rfl (nl J1 (wx fun _ J2=>sq fun _ J3=>RS.mvS rfl ?_)));refine RS.ln V48 ?_;refine RS.og ?_;refine nl J3 (C.ifd rfl (fun c4=>?_) (fun c4=>?_))
 ·exact absurd c4 (by omega)
 refine wp_skip (J2 _ _ (wx fun _ J5=>sq fun _ J6=>RS.mvS rfl ?_));refine RS.call E86 (risingW _ _ _ _ _ D0 hc (by omega)) rfl (fun v7 w7 x7 A7=>?_);have zw7:=x7.size;subst A7;refine RS.nm ?_;refine RS.o (D.not rfl) ?_;refine nl J6 ?_;refine C.ifnot rfl (fun c8=>?_) (fun c8=>?_)
 ·rw[decide_eq_true hr]at c8;cases c8
 refine wp_skip (J5 _ _ (sq fun _ J9=>RS.mvS rfl ?_));refine RS.ln V48 ?_;refine RS.cw V3 V49 ?_;refine RS.call E97 (numW _ (by omega) _) rfl (fun v10 w10 x10 A10=>?_);have zw10:=x10.size;obtain⟨a10,n10,c10,rfl,O1⟩:=A10;replace O1:=O1.base (lo':=w.heap.size) (fun k hk=>by have:=O1.lo k hk;omega);have hnl:=S.numS_len (n:Int);have hol0:=O1.len;refine RS.nm ?_;refine RS.asS rfl (nl J9 (wx fun _ J11=>sq fun _ J12=>RS.mvS rfl ?_));refine RS.ln V48 ?_;refine RS.mvI rfl (nl J12 (wp_block ?_));refine C.loop (A:=Int×Option Addr×Nat×Nat) (fun p=>[(4, .slice p.2.1 p.2.2.1 p.2.2.2),(19, .int .i64 p.1)]) [6,20,21,22,23,24,25,26] (fun p w'=>Pr (fun k=>w.heap.size≤k) w10 w'∧((0≤p.1∧p.1≤n)∧IOwn w.heap.size w' 5 .u8 p.2.1 p.2.2.1 p.2.2.2 (S.numS n++ids.take (32*p.1.toNat)))) (fun p=>(n - p.1.toNat)) (0,a10,n10,c10) (by kernel_rfl) ?_ ?_
 ·refine⟨Pr.refl _ _,⟨by dsimp only;omega,by dsimp only;omega⟩,?_⟩;dsimp only;rw[show(0:Int).toNat=0 from rfl,Nat.mul_zero,List.take_zero,List.append_nil];exact O1
 rintro p j w13 ⟨x13,hI⟩;have zw13:=x13.size;obtain⟨i,ao,no,co⟩:=p;dsimp only at hI;obtain⟨h1,O1⟩:=hI;have hol:=O1.len;replace D0:=((D0.ext x7).ext x10).pro x13;rw[List.length_append,List.length_take,D0.len]at hol;have hob:=O1.lo;refine C.nmU ?_;refine sq fun _ J14=>?_
 refine RS.ol ?_;refine nl J14 (wx fun _ J15=>?_);replace hE:=(Ext.tr (Ext.tr hE x7) x10).trans x13.belo;refine C.ifd rfl (fun c16=>?_) (fun c16=>?_)
 ·refine wp_skip (J15 _ _ (wx fun _ J17=>wp_block (sq fun _ J18=>?_)));refine RS.idxW D0 rfl rfl V48 C59 (by decide) (by omega) (fun b19 o19 h19 q19 r19=>?_);refine RS.nm ?_;have r1:=r19;refine RS.o (D.loadW rfl V59 rfl C59 (by decide) r19 h19) ?_;refine RS.alloc T59 (fun b20 w20 e20 s20 x20 B20=>?_);refine RS.nm ?_;have A20:IArr .u8 w20 b20 32 (List.replicate 32 0) [] 59:=IArr.zero B20;clear B20;refine RS.sr A20 C59 (fun w21 y21 N21=>?_);replace x13:=x13.ext x20;replace x13:=x13.stno y21;replace O1:=O1.ext x20;replace O1:=O1.st y21 (by intros;try (first|(intro _ _)|(intro _)|skip);first|omega|(have hq:=hob _ (by assumption);first|omega|(dsimp only at*;omega)));have zw21:=y21.size;replace A20:=N21;refine nl J18 (region (RS.mvS rfl ?_));refine RS.o (D.sliceArr (kl:= .i64) (kh:= .i64) rfl V59 C5 rfl rfl (by omega)) ?_;refine RS.appendI O1 (A20.row (S:=fun k=>k=b20) rfl) rfl rfl V63 T5 rfl (by omega) (by decide) (by omega) (fun a22 c22 w22 N22 x22=>?_);refine RS.nm ?_;replace hE:=(Ext.tr hE x20).trans y21.belo;replace hE:=hE.trans (x22.belQ (fun _ h=>(O1.lo _ h).1));replace x13:=x13.prnQ x22 (fun _ h=>(O1.lo _ h).1);replace D0:=(D0.ext x20).sto y21;replace D0:=D0.prQ x22 (fun _ h=>(O1.lo _ h).1);replace O1:=N22;refine RS.asS rfl (nl J17 (region ?_));refine RS.adi ?_;refine RS.mvI rfl (RS.nil ?_);change Nx _ _ _ _ _ _ _ _;refine C.next (i+1,_,_,_) ⟨rfl,rfl,trivial⟩ (by kernel_rfl) ?_ ?_
  ·refine⟨x13,⟨by dsimp only;omega,by dsimp only;omega⟩,?_⟩;dsimp only;rw[show(i+1).toNat=i.toNat+1 by omega,elt_cat,←List.append_assoc];exact O1
  dsimp only;omega
 refine wp_exit (J11 _ _ (sq fun _ J23=>RS.mvS rfl (RS.asS rfl (RS.asI rfl (nl J23 (wp_ret ?_))))));refine retSI ?_;have hdl:=D0.len;rw[show i.toNat=n by omega,List.take_of_length_le (by omega)]at O1;exact⟨_,rfl,hE,_,_,_,rfl,O1⟩
theorem listR{S0:Nat→Prop}(a:Option Addr)(n c:Nat)(ids:List Int)(w:World)(D0:WRow .u8 32 S0 w a n ids)(hc:n≤c)(hn:n≤60):
  Calls prog 154 #[.slice a n c] w (Ret w fun v w'=>∃a' n' c',v= .slice a' n' c'∧IOwn w.heap.size w' 5 .u8 a' n' c' (S.listS n ids)):=by
 replace D0:=D0.weaken (T:=fun k=>k<w.heap.size) (fun k hk _=>hk);refine eE 21 func154 rfl rfl fun hE=>?_
 refine sq fun _ J1=>RS.asS rfl ?_;refine nl J1 (sq fun _ J2=>?_);refine RS.mvS rfl ?_;refine RS.ln V48 ?_;refine RS.cw V3 V49 ?_;refine RS.call E148 (numR _ (by omega) _) rfl (fun v3 w3 x3 A3=>?_);have zw3:=x3.size;obtain⟨a3,n3,c3,rfl,O1⟩:=A3;replace O1:=O1.base (lo':=w.heap.size) (fun k hk=>by have:=O1.lo k hk;omega);have hnl:=S.numS_len (n:Int);have hol0:=O1.len;refine RS.nm ?_;refine RS.asS rfl (nl J2 (wx fun _ J4=>sAI rfl (wp_block ?_)));refine C.loop (A:=Int×Option Addr×Nat×Nat) (fun p=>[(3, .slice p.2.1 p.2.2.1 p.2.2.2),(4, .int .i64 p.1)]) [9,10,11,12,13,14,15,16,17,18,19,20] (fun p w'=>Pr (fun k=>w.heap.size≤k) w3 w'∧((0≤p.1∧p.1≤n)∧IOwn w.heap.size w' 5 .u8 p.2.1 p.2.2.1 p.2.2.2 (S.numS n++ids.take (32*p.1.toNat)))) (fun p=>(n - p.1.toNat)) (0,a3,n3,c3) (by kernel_rfl) ?_ ?_
 ·refine⟨Pr.refl _ _,⟨by dsimp only;omega,by dsimp only;omega⟩,?_⟩;dsimp only;rw[show(0:Int).toNat=0 from rfl,Nat.mul_zero,List.take_zero,List.append_nil];exact O1
 rintro p j w6 ⟨x6,hI⟩;have zw6:=x6.size;obtain⟨i,ao,no,co⟩:=p;dsimp only at hI;obtain⟨h1,O1⟩:=hI;have hol:=O1.len;replace D0:=(D0.ext x3).pro x6;rw[List.length_append,List.length_take,D0.len]at hol;have hob:=O1.lo;refine C.nmU ?_;refine wx fun _ J7=>sq fun _ J8=>RS.mvI rfl (RS.mvS rfl ?_);refine RS.ln V48 ?_;refine RS.ol ?_;refine nl J8 ?_;replace hE:=(Ext.tr hE x3).trans x6.belo;refine C.ifd rfl (fun c9=>?_) (fun c9=>?_)
 ·refine wp_skip (J7 _ _ (wx fun _ J10=>wp_block (region (RS.mvS rfl (RS.mvS rfl (RS.mvI rfl ?_))))));refine RS.idxW D0 rfl rfl V48 C59 (by decide) (by omega) (fun b11 o11 h11 q11 r11=>?_);refine RS.nm ?_;have QI:=IRow.of_cells (S:=fun k=>k<w.heap.size) h11 q11 r11;refine RS.o (D.sliceAt rfl V59 C5 (by decide)) ?_;refine RS.appendI O1 QI rfl rfl V63 T5 rfl (by omega) (by decide) (by omega) (fun a12 c12 w12 N12 x12=>?_);refine RS.nm ?_;replace hE:=hE.trans (x12.belQ (fun _ h=>(O1.lo _ h).1));replace x6:=x6.prnQ x12 (fun _ h=>(O1.lo _ h).1);replace D0:=D0.prQ x12 (fun _ h=>(O1.lo _ h).1);replace O1:=N12;refine RS.asS rfl (nl J10 (region (RS.mvI rfl ?_)));refine RS.adi ?_;refine RS.asI rfl (RS.nil ?_);change Nx _ _ _ _ _ _ _ _;refine C.next (i+1,_,_,_) ⟨rfl,rfl,trivial⟩ (by kernel_rfl) ?_ ?_
  ·refine⟨x6,⟨by dsimp only;omega,by dsimp only;omega⟩,?_⟩;dsimp only;rw[show(i+1).toNat=i.toNat+1 by omega,elt_cat,←List.append_assoc];exact O1
  dsimp only;omega
 refine wp_exit (J4 _ _ (sq fun _ J13=>RS.mvS rfl (RS.asS rfl (nl J13 (wp_ret ?_)))));refine retS ?_;have hdl:=D0.len;rw[show i.toNat=n by omega,List.take_of_length_le (by omega)]at O1;exact⟨_,rfl,hE,_,_,_,rfl,O1⟩
theorem risingR{S0:Nat→Prop}(a:Option Addr)(n c:Nat)(ids:List Int)(w:World)(D0:WRow .u8 32 S0 w a n ids)(hc:n≤c)(hn:n≤1000):
  Calls prog 108 #[.slice a n c] w (Ret w fun v _=>v= .bool (decide (S.Rising n ids))):=by
 replace D0:=D0.weaken (T:=fun k=>k<w.heap.size) (fun k hk _=>hk);refine eE 20 func108 rfl rfl fun hE=>?_
 refine sAB rfl (wx fun _ J2=>sAI rfl (wp_block ?_));refine C.loop (A:=Int) (fun p=>[(3, .int .i64 p)]) [2,4,5,6,7,8,9,10,11,12,13,14,15,16,17,18,19,20] (fun p w'=>Ext w w'∧((1≤p∧p≤2000)∧(∀j,j<p.toNat - 1→S.cmpS (S.idAt ids j) (S.idAt ids (j+1))<0))) (fun p=>(2000 - p.toNat)) 1 (by kernel_rfl) ?_ ?_
 ·exact⟨Ext.refl _,⟨by omega,by omega⟩,fun j hj=>by omega⟩
 rintro p j w4 ⟨x4,hI⟩;obtain⟨h1,h2⟩:=hI;refine C.nmU ?_;refine wx fun _ J5=>sq fun _ J6=>RS.mvI rfl (RS.mvS rfl ?_);refine RS.ln V48 ?_;refine RS.ol ?_;refine nl J6 ?_;replace hE:=Ext.tr hE x4;refine C.ifd rfl (fun c7=>?_) (fun c7=>?_)
 ·refine wp_skip (J5 _ _ (wx fun _ J8=>wp_block (wx fun _ J9=>?_)));refine regionX Ext [(0, .q),(1, .q),(2, .q),(3, .q),(4, .q),(5, .q),(6, .q),(7, .q),(8, .q),(9, .e),(10, .q)] mixed Ext.refl (fun h k=>h.tr k) (by kernel_rfl) (fun w10 x10=>?_);replace D0:=D0.ext x4;replace x4:=Ext.tr x4 x10;refine RX.mvS rfl (RX.mvI rfl ?_);refine RX.o (fun w' hw=>D.sub rfl rfl (W.i64 (by omega))) ?_;replace D0:=D0.ext x10;refine RX.idxW (fun _ h=>h) D0 rfl rfl V48 C59 (by decide) (by omega) (fun b11 o11 h11 q11 r11=>?_);refine RX.nm ?_;have r1:=r11;refine RX.o (fun w' hw=>D.loadW rfl V59 rfl C59 (by decide) r11 (h11 w' hw)) ?_;refine RX.mvS rfl (RX.mvI rfl ?_);refine RX.idxW (fun _ h=>h) D0 rfl rfl V48 C59 (by decide) (by omega) (fun b12 o12 h12 q12 r12=>?_);refine RX.nm ?_;have r2:=r12;refine RX.o (fun w' hw=>D.loadW rfl V59 rfl C59 (by decide) r12 (h12 w' hw)) ?_;refine RX.eff ?_;refine RS.call E140 (rcmp _ _ r1 r2 _) rfl (fun v13 w13 x13 A13=>?_);replace x4:=Ext.tr x4 x13;subst A13;refine RS.nm ?_;refine RS.nil ⟨x13,?_⟩;refine RX.o (fun w' hw=>D.ge rfl rfl) ?_;refine RX.nil (J9 _ _ ?_);refine C.ifd rfl (fun c14=>?_) (fun c14=>?_)
  ·have hg:=c14;refine sAB rfl (wp_ret ?_);refine retB rfl rfl ?_;replace hE:=Ext.tr (Ext.tr hE x10) x13;refine⟨_,rfl,hE,congrArg Value.bool (decide_eq_false ?_).symm⟩;intro h;have:=h (p.toNat - 1) (by omega);rw[S.idAt_elt,S.idAt_elt,show p.toNat - 1=(p - 1).toNat by omega,show(p - 1).toNat+1=p.toNat by omega]at this;omega
  have hg:=c14;refine wp_skip (J8 _ _ (region (RS.mvI rfl ?_)));refine RS.adi ?_;refine RS.asI rfl (RS.nil ?_);change Nx _ _ _ _ _ _ _ _;refine C.next (p+1) ⟨rfl,trivial⟩ (by kernel_rfl) ?_ ?_
  ·refine⟨x4,⟨by omega,by omega⟩,S.rising_step n ids p (by omega) h2 ?_⟩;rw[S.idAt_elt,S.idAt_elt];omega
  omega
 refine wp_exit (J2 _ _ (sAB rfl (wp_ret ?_)));refine retB rfl rfl ?_;exact⟨_,rfl,hE,congrArg Value.bool (decide_eq_true (fun j hj=>h2 j (by omega))).symm⟩
theorem sameIDs{S0 S1:Nat→Prop}(a:Option Addr)(n c:Nat)(xs:List Int)(a2:Option Addr)(n2 c2:Nat)(ys:List Int)(w:World)(D0:WRow .u8 32 S0 w a n xs)(D1:WRow .u8 32 S1 w a2 n2 ys)(hn:n≤1000)(hn2:n2≤1000):
  Calls prog 61 #[.slice a n c, .slice a2 n2 c2] w (Ret w fun v _=>v= .bool (decide (xs=ys))):=by
 have hl0:=D0.len;have hl1:=D1.len;refine eE 24 func61 rfl rfl fun hE=>?_
 refine sAB rfl (wx fun _ J2=>sq fun _ J3=>RS.mvS rfl ?_);refine RS.ln V48 ?_;refine RS.mvS rfl ?_;refine RS.ln V48 ?_;refine RS.on ?_;refine nl J3 (C.ifn rfl (fun c4=>?_) (fun c4=>?_))
 ·have hne:=c4;refine sAB rfl (wp_ret ?_);refine retB rfl rfl ?_;refine⟨_,rfl,hE,congrArg Value.bool (decide_eq_false ?_).symm⟩;intro e;rw[e]at hl0;omega
 have hne:=c4;refine wp_skip (J2 _ _ (wx fun _ J6=>sAI rfl (wp_block ?_)));refine C.loop (A:=Int) (fun p=>[(5, .int .i64 p)]) [4,11,12,13,14,15,16,17,18,19,20,21,22,23,24,25] (fun p w'=>Ext w w'∧((0≤p∧p≤n)∧xs.take (32*p.toNat)=ys.take (32*p.toNat))) (fun p=>(n - p.toNat)) 0 (by kernel_rfl) ?_ ?_
 ·exact⟨Ext.refl _,⟨by omega,by omega⟩,rfl⟩
 rintro p j w8 ⟨x8,hI⟩;obtain⟨h1,h2⟩:=hI;refine C.nmU ?_;refine wx fun _ J9=>sq fun _ J10=>RS.mvI rfl (RS.mvS rfl ?_);refine RS.ln V48 ?_;refine RS.ol ?_;refine nl J10 ?_;replace hE:=Ext.tr hE x8;refine C.ifd rfl (fun c11=>?_) (fun c11=>?_)
 ·refine wp_skip (J9 _ _ (wx fun _ J12=>wp_block (wx fun _ J13=>?_)));refine regionX Ext [(0, .q),(1, .q),(2, .q),(3, .q),(4, .q),(5, .q),(6, .q),(7, .q),(8, .q)] mixed Ext.refl (fun h k=>h.tr k) (by kernel_rfl) (fun w14 x14=>?_);replace D0:=D0.ext x8;replace D1:=D1.ext x8;replace x8:=Ext.tr x8 x14;refine RX.mvS rfl (RX.mvI rfl ?_);replace D0:=D0.ext x14;refine RX.idxW (fun _ h=>h) D0 rfl rfl V48 C59 (by decide) (by omega) (fun b15 o15 h15 q15 r15=>?_);refine RX.nm ?_;have r1:=r15;refine RX.o (fun w' hw=>D.loadW rfl V59 rfl C59 (by decide) r15 (h15 w' hw)) ?_;refine RX.mvS rfl (RX.mvI rfl ?_);replace D1:=D1.ext x14;refine RX.idxW (fun _ h=>h) D1 rfl rfl V48 C59 (by decide) (by omega) (fun b16 o16 h16 q16 r16=>?_);refine RX.nm ?_;have r2:=r16;refine RX.o (fun w' hw=>D.loadW rfl V59 rfl C59 (by decide) r16 (h16 w' hw)) ?_;refine RX.o (fun w' hw=>D.neI rfl rfl V59 V5 C5 (by kernel_rfl) r1.1 r2.1 (by decide)) ?_;refine RX.nil (J13 _ _ ?_);refine C.ifb rfl (fun c17=>?_) (fun c17=>?_)
  ·have hd:=c17;refine sAB rfl (wp_ret ?_);refine retB rfl rfl ?_;replace hE:=Ext.tr hE x14;refine⟨_,rfl,hE,congrArg Value.bool (decide_eq_false ?_).symm⟩;intro e;rw[e]at hd;exact of_decide_eq_true hd rfl
  have hd:=c17;refine wp_skip (J12 _ _ (region (RS.mvI rfl ?_)));refine RS.adi ?_;refine RS.asI rfl (RS.nil ?_);change Nx _ _ _ _ _ _ _ _;refine C.next (p+1) ⟨rfl,trivial⟩ (by kernel_rfl) ?_ ?_
  ·refine⟨x8,⟨by omega,by omega⟩,?_⟩;rw[show(p+1).toNat=p.toNat+1 by omega,elt_cat,elt_cat,h2];rw[Decidable.not_not.1 (of_decide_eq_false hd)]
  omega
 have hlt:=c11;refine wp_exit (J6 _ _ (sAB rfl (wp_ret ?_)));refine retB rfl rfl ?_;refine⟨_,rfl,hE,congrArg Value.bool (decide_eq_true ?_).symm⟩;rw[List.take_of_length_le (by omega),List.take_of_length_le (by omega)]at h2;exact h2
theorem isSorted{S0:Nat→Prop}(a:Option Addr)(n c:Nat)(ids:List Int)(w:World)(D0:WRow .u8 32 S0 w a n ids)(hc:n≤c)(hn:n≤1000):
  Calls prog 90 #[.slice a n c, .func (.func 91) #[] #[]] w (Ret w fun v _=>v= .bool (decide (S.Sorted n ids))):=by
 replace D0:=D0.weaken (T:=fun k=>k<w.heap.size) (fun k hk _=>hk);refine eE 23 func90 rfl rfl fun hE=>?_
 refine sAB rfl (wx fun _ J2=>sq fun _ J3=>RS.mvS rfl ?_);refine RS.ln V48 ?_;refine RS.o (D.sub rfl rfl (W.i64 (by omega))) ?_;refine RS.asI rfl (nl J3 (wp_block ?_));refine C.loop (A:=Int) (fun p=>[(5, .int .i64 p)]) [4,9,10,11,12,13,14,15,16,17,18,19,20,21,22,23,24] (fun p w'=>Ext w w'∧((-1≤p∧p<n)∧(∀j,p.toNat≤j→j<n - 1→¬S.cmpS (S.idAt ids (j+1)) (S.idAt ids j)<0))) (fun p=>(p+1).toNat) ((n:Int) - 1) (by kernel_rfl) ?_ ?_
 ·exact⟨Ext.refl _,⟨by omega,by omega⟩,fun j hj hj2=>by omega⟩
 rintro p j w4 ⟨x4,hI⟩;obtain⟨h1,h2⟩:=hI;refine C.nmU ?_;refine wx fun _ J5=>sq fun _ J6=>RS.mvI rfl ?_;refine RS.og ?_;refine nl J6 ?_;replace hE:=Ext.tr hE x4;refine C.ifd rfl (fun c7=>?_) (fun c7=>?_)
 ·refine wp_skip (J5 _ _ (wx fun _ J8=>wp_block (wx fun _ J9=>?_)));refine regionX Ext [(0, .q),(1, .q),(2, .q),(3, .q),(4, .q),(5, .q),(6, .q),(7, .q),(8, .q),(9, .q),(10, .e),(11, .q)] mixed Ext.refl (fun h k=>h.tr k) (by kernel_rfl) (fun w10 x10=>?_);replace D0:=D0.ext x4;replace x4:=Ext.tr x4 x10;refine RX.move (v:= .func _ _ _) rfl ?_;refine RX.mvS rfl (RX.mvI rfl ?_);replace D0:=D0.ext x10;refine RX.idxW (fun _ h=>h) D0 rfl rfl V48 C59 (by decide) (by omega) (fun b11 o11 h11 q11 r11=>?_);refine RX.nm ?_;have r1:=r11;refine RX.o (fun w' hw=>D.loadW rfl V59 rfl C59 (by decide) r11 (h11 w' hw)) ?_;refine RX.mvS rfl (RX.mvI rfl ?_);refine RX.o (fun w' hw=>D.sub rfl rfl (W.i64 (by omega))) ?_;refine RX.idxW (fun _ h=>h) D0 rfl rfl V48 C59 (by decide) (by omega) (fun b12 o12 h12 q12 r12=>?_);refine RX.nm ?_;have r2:=r12;refine RX.o (fun w' hw=>D.loadW rfl V59 rfl C59 (by decide) r12 (h12 w' hw)) ?_;refine RX.eff ?_;refine RS.callv E91 (dcmp _ _ r1 r2 _) rfl rfl (fun e13 w13 A13=>?_);obtain⟨v13,rfl,x13,A13⟩:=A13;refine⟨_,rfl,?_⟩;replace x4:=Ext.tr x4 x13;subst A13;refine RS.nm ?_;refine RS.nil ⟨x13,?_⟩;refine RX.o (fun w' hw=>D.lt rfl rfl) ?_;refine RX.nil (J9 _ _ ?_);refine C.ifd rfl (fun c14=>?_) (fun c14=>?_)
  ·have hg:=c14;refine sAB rfl (wp_ret ?_);refine retB rfl rfl ?_;replace hE:=Ext.tr (Ext.tr hE x10) x13;refine⟨_,rfl,hE,congrArg Value.bool (decide_eq_false ?_).symm⟩;intro h;have:=h (p - 1).toNat (by omega);rw[S.idAt_elt,S.idAt_elt,show(p - 1).toNat+1=p.toNat by omega]at this;exact this hg
  have hg:=c14;refine wp_skip (J8 _ _ (region (RS.mvI rfl ?_)));refine RS.o (D.sub rfl rfl (W.i64 (by omega))) ?_;refine RS.asI rfl (RS.nil ?_);change Nx _ _ _ _ _ _ _ _;refine C.next (p - 1) ⟨rfl,trivial⟩ (by kernel_rfl) ?_ ?_
  ·refine⟨x4,⟨by omega,by omega⟩,fun j hj hj2=>?_⟩;by_cases hjp:p.toNat≤j
   ·exact h2 j hjp hj2
   rw[S.idAt_elt,S.idAt_elt,show j+1=p.toNat by omega,show j=(p - 1).toNat by omega];exact hg
  omega
 refine wp_exit (J2 _ _ (sAB rfl (wp_ret ?_)));refine retB rfl rfl ?_;exact⟨_,rfl,hE,congrArg Value.bool (decide_eq_true (fun j hj=>h2 j (by omega) hj)).symm⟩
theorem cloneID{S0:Nat→Prop}(a:Option Addr)(n c:Nat)(ids:List Int)(w:World)(D0:WRow .u8 32 S0 w a n ids)(hc:n≤c)(hn:n≤1000):
  Calls prog 78 #[.slice a n c] w (Ret w fun v w'=>∃a' n' c',v= .slice a' n' c'∧n'=n∧WOwn w.heap.size w' 59 .u8 32 a' n' c' ids):=by
 replace D0:=D0.weaken (T:=fun k=>k<w.heap.size) (fun k hk _=>hk);refine eE 7 func78 rfl rfl fun hE=>?_
 refine sAS rfl (wx fun _ J2=>sq fun _ J3=>RS.mvS rfl ?_);refine RS.o (D.nilS rfl rfl V48) ?_;refine nl J3 ?_;refine C.ifb rfl (fun c4=>?_) (fun c4=>?_)
 ·have hc0:=c4;refine sAS rfl (wp_ret ?_);refine retS ?_;obtain⟨rfl,rfl⟩:=D0.none (by decide) hc0;exact⟨_,rfl,hE,_,_,_,rfl,rfl,WOwn.nil _ _ _ _ _⟩
 refine wp_skip (J2 _ _ (sq fun _ J6=>?_));refine RS.buildNone V48 T59 (fun b7 w7 e7 s7 x7 B7=>?_);refine RS.nm ?_;have zw7:=x7.size;have O1:WOwn w.heap.size w7 59 .u8 32 (some ⟨b7,0,none⟩) 0 0 []:=WOwn.of_blk B7 rfl rfl (by omega) (Bd.nil _) (by decide);refine RS.mvS rfl ?_;replace D0:=D0.ext x7;refine RS.appendW O1 D0 rfl rfl V48 T59 (by simp[ints]) (by decide) (by omega) (by decide) (by omega) (fun a8 c8 w8 N8 x8=>?_);refine RS.nm ?_;replace hE:=Ext.tr hE x7;replace hE:=hE.trans (x8.belQ (fun _ h=>(O1.los _ h).1));replace D0:=D0.prQ x8 (fun _ h=>(O1.los _ h).1);replace O1:=N8;refine RS.asS rfl (nl J6 (wp_ret ?_));refine retS ?_;exact⟨_,rfl,hE,_,_,_,rfl,Nat.zero_add _,O1⟩
theorem compact(lo:Nat)(a:Option Addr)(n c:Nat)(ids:List Int)(g0:Nat)(w:World)(O1:WOwn lo w 59 .u8 32 a n c ids)(hg:n<2∨a=some ⟨g0,0,none⟩)(hn:n≤1000):
  Calls prog 92 #[.slice a n c] w (fun e w'=>∃a' n' c',e= .returned (.slice a' n' c')∧Pr (fun k=>k=g0) w w'∧(n'=n↔S.Apart n ids)):=by
 have D0:=O1.row;have hcap:=O1.own.pre;have hE:=Pr.refl (fun k=>k=g0) w;refine enterU 60 func92 rfl rfl ?_;refine sAS rfl (wx fun _ J2=>sq fun _ J3=>RS.mvS rfl ?_);refine RS.ln V48 ?_;refine RS.ol ?_;refine nl J3 (C.ifd rfl (fun c4=>?_) (fun c4=>?_))
 ·have h8:=c4;refine sq fun _ J5=>RS.mvS rfl (RS.asS rfl (nl J5 (wp_ret ?_)));change bodyPost prog Tryz.f92 (fun e w'=>∃a' n' c',e= .returned (.slice a' n' c')∧Pr (fun k=>k=g0) w w'∧(n'=n↔S.Apart n ids)) .ret _ _;refine retS ?_;exact⟨_,_,_,rfl,hE,⟨fun _ i hi=>by omega,fun _=>rfl⟩⟩
 have h8:=c4;refine wp_skip (J2 _ _ (wx fun _ J6=>wx fun _ J7=>?_));obtain rfl:a=some ⟨g0,0,none⟩:=by rcases hg with h|h;omega;exact h
 refine region (RS.asI rfl (nl J7 (wp_block ?_)));refine C.loop (A:=Int) (fun p=>[(3, .int .i64 p)]) [2,4,5,10,11,12,13,14,15,16,17,18,19,20,21,22,23,24,25,26,27,28,29,30,31,32,33,34,35,36,37,38,39,40,41,42,43,44,45,46,47,48,49,50,51,52,53,54,55,56,57,58,59] (fun p w'=>Ext w w'∧((1≤p∧p≤n)∧(∀j,j<p.toNat - 1→S.idAt ids (j+1)≠S.idAt ids j))) (fun p=>(n - p.toNat)) 1 (by kernel_rfl) ?_ ?_
 ·exact⟨Ext.refl _,⟨by omega,by omega⟩,fun j hj=>by omega⟩
 rintro p j w8 ⟨x8,hI⟩;obtain⟨h1,h2⟩:=hI;obtain⟨k,hk⟩:∃k,k=p:=⟨p,rfl⟩
 subst hk;refine C.nmU ?_;refine wx fun _ J9=>sq fun _ J10=>RS.mvI rfl (RS.mvS rfl ?_);refine RS.ln V48 ?_;refine RS.ol ?_;refine nl J10 ?_;replace hE:=hE.ext x8;refine C.ifd rfl (fun c11=>?_) (fun c11=>?_)
 ·refine wp_skip (J9 _ _ (wx fun _ J12=>wp_block (wx fun _ J13=>?_)));refine regionX Ext [(0, .q),(1, .q),(2, .q),(3, .q),(4, .q),(5, .q),(6, .q),(7, .q),(8, .q),(9, .q)] mixed Ext.refl (fun h k=>h.tr k) (by kernel_rfl) (fun w14 x14=>?_);replace O1:=O1.ext x8;replace D0:=D0.ext x8;replace x8:=Ext.tr x8 x14;refine RX.mvS rfl (RX.mvI rfl ?_);replace D0:=D0.ext x14;refine RX.idxW (fun _ h=>h) D0 rfl rfl V48 C59 (by decide) (by omega) (fun b15 o15 h15 q15 r15=>?_);refine RX.nm ?_;have r1:=r15;refine RX.o (fun w' hw=>D.loadW rfl V59 rfl C59 (by decide) r15 (h15 w' hw)) ?_;refine RX.mvS rfl (RX.mvI rfl ?_);refine RX.o (fun w' hw=>D.sub rfl rfl (W.i64 (by omega))) ?_;refine RX.idxW (fun _ h=>h) D0 rfl rfl V48 C59 (by decide) (by omega) (fun b16 o16 h16 q16 r16=>?_);refine RX.nm ?_;have r2:=r16;refine RX.o (fun w' hw=>D.loadW rfl V59 rfl C59 (by decide) r16 (h16 w' hw)) ?_;refine RX.o (fun w' hw=>D.eqI rfl rfl V59 V5 C5 (by kernel_rfl) r1.1 r2.1 (by decide)) ?_;refine RX.nil (J13 _ _ ?_);refine C.ifb rfl (fun c17=>?_) (fun c17=>?_)
  ·have heq:=of_decide_eq_true c17;refine sq fun _ J18=>RS.mvS rfl (RS.mvI rfl ?_);refine RS.o (D.slice (kl:= .i64) (kh:= .i64) rfl V48 C59 (by decide) rfl rfl (by omega) (by omega)) ?_;refine RS.asS rfl (nl J18 (wx fun _ J19=>wx fun _ J20=>?_));have hA2:subA (some ⟨g0,0,none⟩) k.toNat 32 c=some ⟨g0,k.toNat*32,none⟩:=by unfold subA;rw[if_neg (by omega)];simp[add_mk]
   replace O1:=O1.ext x14;have U1:=O1.ub;refine region (RS.asI rfl (nl J20 (wp_block ?_)));refine C.loop (A:=Int×Int) (fun p=>[(3, .int .i64 p.1),(5, .int .i64 p.2)]) [29,30,31,32,33,34,35,36,37,38,39,40,41,42,43,44,45,46,47,48,49,50,51,52,53] (fun p w'=>Pr (fun k=>k=g0) w14 w'∧(UB w' g0 (32*n) 59∧(k≤p.1∧1≤p.2∧p.1+1≤k+p.2∧p.2≤n - k))) (fun p=>(n - p.2.toNat)) (k,1) (by kernel_rfl) ?_ ?_
   ·exact⟨Pr.refl _ _,U1,by dsimp only;omega⟩
   rintro p j w21 ⟨x21,hI⟩;replace hE:=hE.ext x14;replace hE:=hE.prno x21;obtain⟨k1,k2⟩:=p;dsimp only at hI;obtain⟨U1,g1⟩:=hI;refine C.nmU ?_;refine wx fun _ J22=>sq fun _ J23=>RS.mvI rfl (RS.mvS rfl ?_);refine RS.ln V48 ?_;refine RS.ol ?_;refine nl J23 (C.ifd rfl (fun c24=>?_) (fun c24=>?_))
   ·refine wp_skip (J22 _ _ (wx fun _ J25=>wp_block (wx fun _ J26=>?_)));refine regionX Ext [(0, .q),(1, .q),(2, .q),(3, .q),(4, .q),(5, .q),(6, .q),(7, .q),(8, .q),(9, .q)] mixed Ext.refl (fun h k=>h.tr k) (by kernel_rfl) (fun w27 x27=>?_);refine RX.mvS rfl (RX.mvI rfl ?_);replace U1:=U1.ext x27;refine RX.idxU (fun _ h=>h) U1 hA2 rfl rfl V48 C59 (by decide) (by omega) (by omega) (fun u28 o28 g28 h28 r28=>?_);refine RX.nm ?_;have r3:=r28;refine RX.o (fun w' hw=>D.loadW rfl V59 rfl C59 (by decide) r28 (h28 w' hw)) ?_;refine RX.mvS rfl (RX.mvI rfl ?_);refine RX.o (fun w' hw=>D.sub rfl rfl (W.i64 (by omega))) ?_;refine RX.idxU (fun _ h=>h) U1 hA2 rfl rfl V48 C59 (by decide) (by omega) (by omega) (fun u29 o29 g29 h29 r29=>?_);refine RX.nm ?_;have r4:=r29;refine RX.o (fun w' hw=>D.loadW rfl V59 rfl C59 (by decide) r29 (h29 w' hw)) ?_;refine RX.o (fun w' hw=>D.neI rfl rfl V59 V5 C5 (by kernel_rfl) r3.1 r4.1 (by decide)) ?_;refine RX.nil (J26 _ _ ?_);replace x21:=x21.ext x27;refine C.ifb rfl (fun c30=>?_) (fun c30=>?_)
    ·refine sq fun _ J31=>RS.mvS rfl (RS.mvI rfl (RS.mvS rfl (RS.mvI rfl ?_)));refine RS.idxU U1 hA2 rfl rfl V48 C59 (by decide) (by omega) (by omega) (fun u32 o32 g32 h32 r32=>?_);refine RS.nm ?_;have r5:=r32;refine RS.o (D.loadW rfl V59 rfl C59 (by decide) r32 h32) ?_;refine RS.idxU U1 rfl rfl rfl V48 C59 (by decide) (by omega) (by omega) (fun u33 o33 g33 h33 r33=>?_);refine RS.nm ?_;refine RS.storeU U1 rfl rfl C59 (by decide) (by assumption) (by omega) (fun w34 y34 N34=>?_);replace hE:=hE.ext x27;replace hE:=hE.stno y34;replace x21:=x21.stno y34;replace U1:=N34;refine nl J31 (region (RS.mvI rfl ?_));refine RS.adi ?_;refine RS.asI rfl (nl J25 (region (RS.mvI rfl ?_)));refine RS.adi ?_;refine RS.asI rfl (RS.nil ?_);change Nx _ _ _ _ _ _ _ _;refine C.next (k1+1,k2+1) ⟨rfl,rfl,trivial⟩ (by kernel_rfl) ?_ ?_
     ·exact⟨x21,U1,by dsimp only;omega⟩
     dsimp only;omega
    refine wp_skip (J25 _ _ (region (RS.mvI rfl ?_)));refine RS.adi ?_;refine RS.asI rfl (RS.nil ?_);change Nx _ _ _ _ _ _ _ _;refine C.next (k1,k2+1) ⟨rfl,rfl,trivial⟩ (by kernel_rfl) ?_ ?_
    ·exact⟨x21,U1,by dsimp only;omega⟩
    dsimp only;omega
   refine wp_exit (J19 _ _ (wx fun _ J35=>?_));have hA3:subA (some ⟨g0,0,none⟩) k1.toNat 32 c=some ⟨g0,k1.toNat*32,none⟩:=by unfold subA;rw[if_neg (by omega)];simp[add_mk]
   refine region (RS.mvS rfl (RS.mvI rfl ?_));refine RS.o (D.slice (kl:= .i64) (kh:= .i64) rfl V48 C59 (by decide) rfl rfl (by omega) (by omega)) ?_;refine RS.clearU U1 hA3 rfl V48 T59 (by intro v hv;obtain⟨x,hx,rfl⟩:=List.mem_map.1 hv;rw[(List.mem_replicate.1 hx).2]) (by simp[ints]) (by decide) (by omega) (fun w36 y36 N36=>?_);replace hE:=hE.stno y36;replace U1:=N36;refine nl J35 (sq fun _ J37=>?_);refine RS.mvS rfl (RS.mvI rfl ?_);refine RS.o (D.slice (kl:= .i64) (kh:= .i64) rfl V48 C59 (by decide) rfl rfl (by omega) (by omega)) ?_;refine RS.asS rfl (nl J37 (wp_ret ?_));change bodyPost prog Tryz.f92 (fun e w'=>∃a' n' c',e= .returned (.slice a' n' c')∧Pr (fun k=>k=g0) w w'∧(n'=n↔S.Apart n ids)) .ret _ _;refine retS ?_;refine⟨_,_,_,rfl,hE,⟨fun h=>?_,fun h=>?_⟩⟩
   ·omega
   have:=h (k.toNat - 1) (by omega);rw[S.idAt_elt,S.idAt_elt,show k.toNat - 1+1=k.toNat by omega,show k.toNat - 1=(k - 1).toNat by omega]at this;exact(this heq).elim
  have hne:=of_decide_eq_false c17;refine wp_skip (J12 _ _ (region (RS.mvI rfl ?_)));refine RS.adi ?_;refine RS.asI rfl (RS.nil ?_);change Nx _ _ _ _ _ _ _ _;refine C.next (k+1) ⟨rfl,trivial⟩ (by kernel_rfl) ?_ ?_
  ·refine⟨x8,⟨by omega,by omega⟩,fun j hj=>?_⟩;by_cases hjp:j<k.toNat - 1
   ·exact h2 j hjp
   rw[S.idAt_elt,S.idAt_elt,show j+1=k.toNat by omega,show j=(k - 1).toNat by omega];exact hne
  omega
 refine wp_exit (J6 _ _ (sq fun _ J38=>RS.mvS rfl (RS.asS rfl (nl J38 (wp_ret ?_)))));change bodyPost prog Tryz.f92 (fun e w'=>∃a' n' c',e= .returned (.slice a' n' c')∧Pr (fun k=>k=g0) w w'∧(n'=n↔S.Apart n ids)) .ret _ _;refine retS ?_;exact⟨_,_,_,rfl,hE,⟨fun _ i hi=>h2 i (by omega),fun _=>rfl⟩⟩
theorem C51:prog.cellsOf 51=4:=by kernel_rfl
theorem T51:TI prog 51 4 40 [.int .u8 0, .int .i64 0, .int .u64 0, .string .empty]:=by
 have h:(prog.info? 51).map (fun i=>(i.size,i.bytes,i.zero))=some (4,40,some (.agg #[.int .u8 0, .int .i64 0, .int .u64 0, .string .empty])):=by kernel_rfl
 exact TI.of h rfl
theorem F51:SI prog 51 [(0,1),(1,1),(2,1),(3,1)]:=⟨_,V51,by kernel_rfl,by kernel_rfl⟩
theorem E158:Enters prog 158:= .mk func158 (by kernel_rfl) rfl
theorem E159:Enters prog 159:= .mk func159 (by kernel_rfl) rfl
theorem E160:Enters prog 160:= .mk func160 (by kernel_rfl) rfl
theorem E163:Enters prog 163:= .mk func163 (by kernel_rfl) rfl
theorem E177:Enters prog 177:= .mk func177 (by kernel_rfl) rfl
theorem E178:Enters prog 178:= .mk func178 (by kernel_rfl) rfl
theorem E182:Enters prog 182:= .mk func182 (by kernel_rfl) rfl
theorem E185:Enters prog 185:= .mk func185 (by kernel_rfl) rfl
theorem E187:Enters prog 187:= .mk func187 (by kernel_rfl) rfl
theorem E188:Enters prog 188:= .mk func188 (by kernel_rfl) rfl
theorem rune33(r:Int)(w:World):
  Calls prog 163 #[.int .i32 r] w (Ret w fun v _=>v= .bool (decide (r<33∨126<r))):=by
 refine eE 8 func163 rfl rfl fun hE=>?_
 refine sq fun _ J1=>RS.asB rfl ?_;refine nl J1 (sq fun _ J2=>?_);refine RS.mvI rfl ?_;refine RS.ol ?_;refine RS.mvB rfl ?_;refine RS.splitd 5 rfl rfl (fun c3=>?_) (fun c3=>?_)
 ·refine RS.nm ?_;refine RS.skT 5 ?_;refine RS.skT 5 ?_;refine RS.pkt ?_;refine RS.asB rfl (nl J2 (wp_ret ?_));refine retB rfl rfl ?_;refine⟨_,rfl,hE,congrArg Value.bool (decide_eq_true ?_).symm⟩;omega
 refine RS.nm ?_;refine RS.wt 5 ?_;refine RS.mvI rfl ?_;refine RS.wt 5 ?_;refine RS.og ?_;refine RS.pk ?_;refine RS.asB rfl (nl J2 (wp_ret ?_));refine retB rfl rfl ?_;refine⟨_,rfl,hE,congrArg Value.bool (decide_eq_decide.2 ?_)⟩;omega
theorem index33(s:ByteArray)(w:World):
  Calls prog 178 #[.string s, .func (.func 163) #[] #[], .bool true] w (Ret w fun v _=>∃j,v= .int .i64 j∧(j<0↔S.Asc 33 s)):=by
 refine eE 18 func178 rfl rfl fun hE=>?_
 refine sAI rfl (wx fun _ J2=>sq fun _ J3=>?_);refine RS.move (v:= .string _) rfl ?_;refine RS.range rfl V9 (fun b4 w4 e4 s4 x4 I4=>?_);refine RS.nm ?_;have zw4:=x4.size;refine nl J3 (wp_block ?_);refine C.loop (A:=Int) (fun p=>[]) [6,7,8,11,12,13,14,15,16,17,18,19,20] (fun p w'=>Pr (fun k=>k=b4) w4 w'∧((0≤p∧p≤s.size)∧It w' b4 s p.toNat∧(∀j,j<p.toNat→33≤(bys s).getD j 0∧(bys s).getD j 0≤126))) (fun p=>(s.size - p.toNat)) 0 (by kernel_rfl) ?_ ?_
 ·exact⟨Pr.refl _ _,⟨by omega,by omega⟩,I4,fun j hj=>by omega⟩
 rintro p j w5 ⟨x5,hI⟩;obtain⟨h1,I4,h2⟩:=hI;have hdc:=S.dec_case s p.toNat;refine C.nmU ?_;refine sq fun _ J6=>?_
 replace hE:=(Ext.tr hE x4).trans x5.belo;refine RS.next I4 rfl (fun c7 w7 y7 N7=>?_) (fun c7=>?_)
 ·refine RS.nm ?_;replace x5:=x5.stno y7;replace I4:=N7;have hp:=c7;refine RS.extract (v:= .bool true) rfl rfl ?_;refine nl J6 (wx fun _ J8=>?_);refine C.ift rfl ?_;refine wp_skip (J8 _ _ (wp_block (sq fun _ J9=>?_)));refine RS.exI ?_;refine RS.exI ?_;refine RS.asI rfl (RS.asI rfl ?_);refine nl J9 (sq fun _ J10=>?_);refine RS.move (v:= .func _ _ _) rfl ?_;refine RS.mvI rfl ?_;refine RS.callv E163 (rune33 _ _) rfl rfl (fun e11 w11 A11=>?_);obtain⟨v11,rfl,x11,A11⟩:=A11;refine⟨_,rfl,?_⟩;subst A11;refine RS.nm ?_;refine RS.mvB rfl ?_;refine RS.o (D.eqB rfl rfl V4) ?_;refine nl J10 ?_;refine C.ifb rfl (fun c12=>?_) (fun c12=>?_)
  ·have hf:=c12;refine sq fun _ J13=>RS.mvI rfl (RS.asI rfl (nl J13 (wp_ret ?_)));refine retI rfl rfl ?_;have hd:=hdc hp;rw[beq_true]at hf;have hf2:=of_decide_eq_true hf;replace hE:=Ext.tr (hE.trans y7.belo) x11;refine⟨_,rfl,hE,_,rfl,⟨fun h=>by omega,fun h=>?_⟩⟩;have:=h p.toNat hp;omega
  have hf:=c12;refine wp_skip ?_;change Nx _ _ _ _ _ _ _ _;refine C.next (p+1) trivial (by kernel_rfl) ?_ ?_
  ·have hd:=hdc hp;rw[beq_true]at hf;have hf2:=of_decide_eq_false hf;have hw:(Utf8.decode s p.toNat).2=1:=by omega
   replace I4:=I4.ext x11;rw[hw]at I4;replace x5:=x5.ext x11;refine⟨x5,⟨by omega,by omega⟩,?_,fun j hj=>?_⟩
   ·rw[show(p+1).toNat=p.toNat+1 by omega];exact I4
   by_cases hjp:j<p.toNat
   ·exact h2 j hjp
   obtain rfl:j=p.toNat:=by omega
   omega
  omega
 refine RS.nm ?_;have hp:=c7;refine RS.extract (v:= .bool false) rfl rfl ?_;refine nl J6 (wx fun _ J14=>?_);refine C.iff rfl ?_;refine wp_exit (J2 _ _ (sAI rfl (wp_ret ?_)));refine retI rfl rfl ?_;refine⟨_,rfl,hE,_,rfl,⟨fun _ j hj=>h2 j (by omega),fun _=>by decide⟩⟩
theorem Index33(s:ByteArray)(w:World):
  Calls prog 159 #[.string s, .func (.func 163) #[] #[]] w (Ret w fun v _=>∃j,v= .int .i64 j∧(j<0↔S.Asc 33 s)):=by
 refine eE 6 func159 rfl rfl fun hE=>?_
 refine sq fun _ J1=>RS.asI rfl ?_;refine nl J1 (sq fun _ J2=>?_);refine RS.move (v:= .string _) rfl ?_;refine RS.move (v:= .func _ _ _) rfl ?_;refine RS.call E178 (index33 _ _) rfl (fun v3 w3 x3 A3=>?_);obtain⟨j,rfl,hj⟩:=A3;refine RS.nm ?_;refine RS.asI rfl (nl J2 (wp_ret ?_));refine retI rfl rfl ?_;replace hE:=Ext.tr hE x3;exact⟨_,rfl,hE,_,rfl,hj⟩
theorem rune32(r:Int)(w:World):
  Calls prog 160 #[.int .i32 r] w (Ret w fun v _=>v= .bool (decide (r<32∨126<r))):=by
 refine eE 8 func160 rfl rfl fun hE=>?_
 refine sq fun _ J1=>RS.asB rfl ?_;refine nl J1 (sq fun _ J2=>?_);refine RS.mvI rfl ?_;refine RS.ol ?_;refine RS.mvB rfl ?_;refine RS.splitd 5 rfl rfl (fun c3=>?_) (fun c3=>?_)
 ·refine RS.nm ?_;refine RS.skT 5 ?_;refine RS.skT 5 ?_;refine RS.pkt ?_;refine RS.asB rfl (nl J2 (wp_ret ?_));refine retB rfl rfl ?_;refine⟨_,rfl,hE,congrArg Value.bool (decide_eq_true ?_).symm⟩;omega
 refine RS.nm ?_;refine RS.wt 5 ?_;refine RS.mvI rfl ?_;refine RS.wt 5 ?_;refine RS.og ?_;refine RS.pk ?_;refine RS.asB rfl (nl J2 (wp_ret ?_));refine retB rfl rfl ?_;refine⟨_,rfl,hE,congrArg Value.bool (decide_eq_decide.2 ?_)⟩;omega
theorem index32(s:ByteArray)(w:World):
  Calls prog 178 #[.string s, .func (.func 160) #[] #[], .bool true] w (Ret w fun v _=>∃j,v= .int .i64 j∧(j<0↔S.Asc 32 s)):=by
 refine eE 18 func178 rfl rfl fun hE=>?_
 refine sAI rfl (wx fun _ J2=>sq fun _ J3=>?_);refine RS.move (v:= .string _) rfl ?_;refine RS.range rfl V9 (fun b4 w4 e4 s4 x4 I4=>?_);refine RS.nm ?_;have zw4:=x4.size;refine nl J3 (wp_block ?_);refine C.loop (A:=Int) (fun p=>[]) [6,7,8,11,12,13,14,15,16,17,18,19,20] (fun p w'=>Pr (fun k=>k=b4) w4 w'∧((0≤p∧p≤s.size)∧It w' b4 s p.toNat∧(∀j,j<p.toNat→32≤(bys s).getD j 0∧(bys s).getD j 0≤126))) (fun p=>(s.size - p.toNat)) 0 (by kernel_rfl) ?_ ?_
 ·exact⟨Pr.refl _ _,⟨by omega,by omega⟩,I4,fun j hj=>by omega⟩
 rintro p j w5 ⟨x5,hI⟩;obtain⟨h1,I4,h2⟩:=hI;have hdc:=S.dec_case s p.toNat;refine C.nmU ?_;refine sq fun _ J6=>?_
 replace hE:=(Ext.tr hE x4).trans x5.belo;refine RS.next I4 rfl (fun c7 w7 y7 N7=>?_) (fun c7=>?_)
 ·refine RS.nm ?_;replace x5:=x5.stno y7;replace I4:=N7;have hp:=c7;refine RS.extract (v:= .bool true) rfl rfl ?_;refine nl J6 (wx fun _ J8=>?_);refine C.ift rfl ?_;refine wp_skip (J8 _ _ (wp_block (sq fun _ J9=>?_)));refine RS.exI ?_;refine RS.exI ?_;refine RS.asI rfl (RS.asI rfl ?_);refine nl J9 (sq fun _ J10=>?_);refine RS.move (v:= .func _ _ _) rfl ?_;refine RS.mvI rfl ?_;refine RS.callv E160 (rune32 _ _) rfl rfl (fun e11 w11 A11=>?_);obtain⟨v11,rfl,x11,A11⟩:=A11;refine⟨_,rfl,?_⟩;subst A11;refine RS.nm ?_;refine RS.mvB rfl ?_;refine RS.o (D.eqB rfl rfl V4) ?_;refine nl J10 ?_;refine C.ifb rfl (fun c12=>?_) (fun c12=>?_)
  ·have hf:=c12;refine sq fun _ J13=>RS.mvI rfl (RS.asI rfl (nl J13 (wp_ret ?_)));refine retI rfl rfl ?_;have hd:=hdc hp;rw[beq_true]at hf;have hf2:=of_decide_eq_true hf;replace hE:=Ext.tr (hE.trans y7.belo) x11;refine⟨_,rfl,hE,_,rfl,⟨fun h=>by omega,fun h=>?_⟩⟩;have:=h p.toNat hp;omega
  have hf:=c12;refine wp_skip ?_;change Nx _ _ _ _ _ _ _ _;refine C.next (p+1) trivial (by kernel_rfl) ?_ ?_
  ·have hd:=hdc hp;rw[beq_true]at hf;have hf2:=of_decide_eq_false hf;have hw:(Utf8.decode s p.toNat).2=1:=by omega
   replace I4:=I4.ext x11;rw[hw]at I4;replace x5:=x5.ext x11;refine⟨x5,⟨by omega,by omega⟩,?_,fun j hj=>?_⟩
   ·rw[show(p+1).toNat=p.toNat+1 by omega];exact I4
   by_cases hjp:j<p.toNat
   ·exact h2 j hjp
   obtain rfl:j=p.toNat:=by omega
   omega
  omega
 refine RS.nm ?_;have hp:=c7;refine RS.extract (v:= .bool false) rfl rfl ?_;refine nl J6 (wx fun _ J14=>?_);refine C.iff rfl ?_;refine wp_exit (J2 _ _ (sAI rfl (wp_ret ?_)));refine retI rfl rfl ?_;refine⟨_,rfl,hE,_,rfl,⟨fun _ j hj=>h2 j (by omega),fun _=>by decide⟩⟩
theorem Index32(s:ByteArray)(w:World):
  Calls prog 159 #[.string s, .func (.func 160) #[] #[]] w (Ret w fun v _=>∃j,v= .int .i64 j∧(j<0↔S.Asc 32 s)):=by
 refine eE 6 func159 rfl rfl fun hE=>?_
 refine sq fun _ J1=>RS.asI rfl ?_;refine nl J1 (sq fun _ J2=>?_);refine RS.move (v:= .string _) rfl ?_;refine RS.move (v:= .func _ _ _) rfl ?_;refine RS.call E178 (index32 _ _) rfl (fun v3 w3 x3 A3=>?_);obtain⟨j,rfl,hj⟩:=A3;refine RS.nm ?_;refine RS.asI rfl (nl J2 (wp_ret ?_));refine retI rfl rfl ?_;replace hE:=Ext.tr hE x3;exact⟨_,rfl,hE,_,rfl,hj⟩
theorem key(s:ByteArray)(w:World):
  Calls prog 123 #[.string s] w (Ret w fun v _=>v= .bool (decide (S.KeyOk s))):=by
 refine eE 15 func123 rfl rfl fun hE=>?_
 refine sq fun _ J1=>RS.asB rfl ?_;refine nl J1 (sq fun _ J2=>?_);refine RS.move (v:= .string _) rfl ?_;refine RS.o (D.lenStr rfl V9) ?_;refine RS.oe ?_;refine RS.mvB rfl ?_;refine RS.splitd 6 rfl rfl (fun c3=>?_) (fun c3=>?_)
 ·refine RS.nm ?_;refine RS.wt 6 ?_;refine RS.move (v:= .string _) rfl ?_;refine RS.wt 6 ?_;refine RS.o (D.lenStr rfl V9) ?_;refine RS.wt 6 ?_;refine RS.o (D.le rfl rfl) ?_;refine RS.pk ?_;refine RS.mvB rfl ?_;refine RS.splitd 11 rfl rfl (fun c4=>?_) (fun c4=>?_)
  ·refine RS.nm ?_;refine RS.wt 11 ?_;refine RS.move (v:= .string _) rfl ?_;refine RS.wt 11 ?_;refine RS.call E159 (Index33 _ _) rfl (fun v5 w5 x5 A5=>?_);obtain⟨j,rfl,hj⟩:=A5;refine RS.nm ?_;refine RS.wt 11 ?_;refine RS.ol ?_;refine RS.pk ?_;refine RS.asB rfl (nl J2 (wp_ret ?_));refine retB rfl rfl ?_;replace hE:=Ext.tr hE x5;refine⟨_,rfl,hE,congrArg Value.bool (decide_eq_decide.2 ?_)⟩;unfold S.KeyOk;rw[hj];exact⟨fun h=>⟨by omega,by omega,h⟩,fun h=>h.2.2⟩
  refine RS.nm ?_;refine RS.skF 11 ?_;refine RS.skF 11 ?_;refine RS.skF 11 ?_;refine RS.pkf ?_;refine RS.asB rfl (nl J2 (wp_ret ?_));refine retB rfl rfl ?_;refine⟨_,rfl,hE,congrArg Value.bool (decide_eq_false ?_).symm⟩;intro h;have:=h.2.1;omega
 refine RS.nm ?_;refine RS.skF 6 ?_;refine RS.skF 6 ?_;refine RS.skF 6 ?_;refine RS.pkf ?_;refine RS.mvB rfl ?_;refine RS.skF 11 ?_;refine RS.skF 11 ?_;refine RS.skF 11 ?_;refine RS.pkf ?_;refine RS.asB rfl (nl J2 (wp_ret ?_));refine retB rfl rfl ?_;refine⟨_,rfl,hE,congrArg Value.bool (decide_eq_false ?_).symm⟩;intro h;have:=h.1;omega
theorem printable(s:ByteArray)(hs:s.size≤1000000)(w:World):
  Calls prog 171 #[.string s] w (Ret w fun v _=>v= .bool (decide (S.Asc 32 s))):=by
 refine eE 19 func171 rfl rfl fun hE=>?_
 refine sAB rfl (wx fun _ J2=>sAI rfl (wp_block ?_));refine C.loop (A:=Int) (fun p=>[(3, .int .i64 p)]) [2,4,5,6,7,8,9,10,11,12,13,14,15,16,17,18,19] (fun p w'=>Ext w w'∧((0≤p∧p≤s.size)∧(∀j,j<p.toNat→32≤(bys s).getD j 0∧(bys s).getD j 0≤126))) (fun p=>(s.size - p.toNat)) 0 (by kernel_rfl) ?_ ?_
 ·exact⟨Ext.refl _,⟨by omega,by omega⟩,fun j hj=>by omega⟩
 rintro p j w4 ⟨x4,hI⟩;obtain⟨h1,h2⟩:=hI;refine C.nmU ?_;refine wx fun _ J5=>sq fun _ J6=>RS.mvI rfl ?_;refine RS.move (v:= .string _) rfl ?_;refine RS.o (D.lenStr rfl V9) ?_;refine RS.ol ?_;refine nl J6 ?_;replace hE:=Ext.tr hE x4;refine C.ifd rfl (fun c7=>?_) (fun c7=>?_)
 ·have hl:=c7;refine wp_skip (J5 _ _ (wx fun _ J8=>wp_block (sq fun _ J9=>?_)));refine RS.move (v:= .string _) rfl ?_;refine RS.mvI rfl ?_;refine RS.indexStr rfl rfl V9 (by omega) (fun v10 q10 r10=>?_);refine RS.nm ?_;simp only[lim]at r10;refine RS.ol ?_;refine RS.mvB rfl ?_;refine RS.splitd 14 rfl rfl (fun c11=>?_) (fun c11=>?_)
  ·refine RS.nm ?_;refine RS.skT 14 ?_;refine RS.skT 14 ?_;refine RS.skT 14 ?_;refine RS.skT 14 ?_;refine RS.pkt ?_;refine nl J9 ?_;refine C.ift rfl ?_;refine sAB rfl (wp_ret ?_);refine retB rfl rfl ?_;refine⟨_,rfl,hE,congrArg Value.bool (decide_eq_false ?_).symm⟩;intro h;have:=h p.toNat (by omega);omega
  refine RS.nm ?_;refine RS.wt 14 ?_;refine RS.move (v:= .string _) rfl ?_;refine RS.wt 14 ?_;refine RS.mvI rfl ?_;refine RS.wt 14 ?_;refine RS.indexStr rfl rfl V9 (by omega) (fun v13 q13 r13=>?_);refine RS.nm ?_;simp only[lim]at r13;refine RS.wt 14 ?_;refine RS.og ?_;refine RS.pk ?_;refine nl J9 (C.ifd rfl (fun c14=>?_) (fun c14=>?_))
  ·try have hb:=c14
   refine sAB rfl (wp_ret ?_);refine retB rfl rfl ?_;refine⟨_,rfl,hE,congrArg Value.bool (decide_eq_false ?_).symm⟩;intro h;have:=h p.toNat (by omega);omega
  refine wp_skip (J8 _ _ (region (RS.mvI rfl ?_)));refine RS.adi ?_;refine RS.asI rfl (RS.nil ?_);change Nx _ _ _ _ _ _ _ _;refine C.next (p+1) ⟨rfl,trivial⟩ (by kernel_rfl) ?_ ?_
  ·refine⟨x4,⟨by omega,by omega⟩,fun j hj=>?_⟩;by_cases hjp:j<p.toNat
   ·exact h2 j hjp
   obtain rfl:j=p.toNat:=by omega
   omega
  omega
 have hl:=c7;refine wp_exit (J2 _ _ (sAB rfl (wp_ret ?_)));refine retB rfl rfl ?_;exact⟨_,rfl,hE,congrArg Value.bool (decide_eq_true (fun j hj=>h2 j (by omega))).symm⟩
theorem nameR(s:ByteArray)(hs:s.size≤1000000)(w:World):
  Calls prog 142 #[.string s] w (Ret w fun v _=>v= .bool (decide (S.KeyOk s))):=by
 refine eE 27 func142 rfl rfl fun hE=>?_
 refine sAB rfl (wx fun _ J2=>sq fun _ J3=>?_);refine RS.move (v:= .string _) rfl ?_;refine RS.o (D.lenStr rfl V9) ?_;refine RS.ol ?_;refine RS.mvB rfl ?_;refine RS.splitd 7 rfl rfl (fun c4=>?_) (fun c4=>?_)
 ·refine RS.nm ?_;refine RS.skT 7 ?_;refine RS.skT 7 ?_;refine RS.skT 7 ?_;refine RS.pkt ?_;refine nl J3 ?_;refine C.ift rfl ?_;refine sAB rfl (wp_ret ?_);refine retB rfl rfl ?_;refine⟨_,rfl,hE,congrArg Value.bool (decide_eq_false ?_).symm⟩;intro h;have:=h.1;omega
 refine RS.nm ?_;refine RS.wt 7 ?_;refine RS.move (v:= .string _) rfl ?_;refine RS.wt 7 ?_;refine RS.o (D.lenStr rfl V9) ?_;refine RS.wt 7 ?_;refine RS.og ?_;refine RS.pk ?_;refine nl J3 (C.ifd rfl (fun c6=>?_) (fun c6=>?_))
 ·refine sAB rfl (wp_ret ?_);refine retB rfl rfl ?_;refine⟨_,rfl,hE,congrArg Value.bool (decide_eq_false ?_).symm⟩;intro h;have:=h.2.1;omega
 refine wp_skip (J2 _ _ (wx fun _ J8=>sAI rfl (wp_block ?_)));refine C.loop (A:=Int) (fun p=>[(3, .int .i64 p)]) [2,12,13,14,15,16,17,18,19,20,21,22,23,24,25,26,27] (fun p w'=>Ext w w'∧((0≤p∧p≤s.size)∧(∀j,j<p.toNat→33≤(bys s).getD j 0∧(bys s).getD j 0≤126))) (fun p=>(s.size - p.toNat)) 0 (by kernel_rfl) ?_ ?_
 ·exact⟨Ext.refl _,⟨by omega,by omega⟩,fun j hj=>by omega⟩
 rintro p j w10 ⟨x10,hI⟩;obtain⟨h1,h2⟩:=hI;refine C.nmU ?_;refine wx fun _ J11=>sq fun _ J12=>RS.mvI rfl ?_;refine RS.move (v:= .string _) rfl ?_;refine RS.o (D.lenStr rfl V9) ?_;refine RS.ol ?_;refine nl J12 ?_;replace hE:=Ext.tr hE x10;refine C.ifd rfl (fun c13=>?_) (fun c13=>?_)
 ·refine wp_skip (J11 _ _ (wx fun _ J14=>wp_block (sq fun _ J15=>?_)));refine RS.move (v:= .string _) rfl ?_;refine RS.mvI rfl ?_;refine RS.indexStr rfl rfl V9 (by omega) (fun v16 q16 r16=>?_);refine RS.nm ?_;simp only[lim]at r16;refine RS.ol ?_;refine RS.mvB rfl ?_;refine RS.splitd 22 rfl rfl (fun c17=>?_) (fun c17=>?_)
  ·refine RS.nm ?_;refine RS.skT 22 ?_;refine RS.skT 22 ?_;refine RS.skT 22 ?_;refine RS.skT 22 ?_;refine RS.pkt ?_;refine nl J15 ?_;refine C.ift rfl ?_;refine sAB rfl (wp_ret ?_);refine retB rfl rfl ?_;refine⟨_,rfl,hE,congrArg Value.bool (decide_eq_false ?_).symm⟩;intro h;have:=h.2.2 p.toNat (by omega);omega
  refine RS.nm ?_;refine RS.wt 22 ?_;refine RS.move (v:= .string _) rfl ?_;refine RS.wt 22 ?_;refine RS.mvI rfl ?_;refine RS.wt 22 ?_;refine RS.indexStr rfl rfl V9 (by omega) (fun v19 q19 r19=>?_);refine RS.nm ?_;simp only[lim]at r19;refine RS.wt 22 ?_;refine RS.og ?_;refine RS.pk ?_;refine nl J15 (C.ifd rfl (fun c20=>?_) (fun c20=>?_))
  ·refine sAB rfl (wp_ret ?_);refine retB rfl rfl ?_;refine⟨_,rfl,hE,congrArg Value.bool (decide_eq_false ?_).symm⟩;intro h;have:=h.2.2 p.toNat (by omega);omega
  refine wp_skip (J14 _ _ (region (RS.mvI rfl ?_)));refine RS.adi ?_;refine RS.asI rfl (RS.nil ?_);change Nx _ _ _ _ _ _ _ _;refine C.next (p+1) ⟨rfl,trivial⟩ (by kernel_rfl) ?_ ?_
  ·refine⟨x10,⟨by omega,by omega⟩,fun j hj=>?_⟩;by_cases hjp:j<p.toNat
   ·exact h2 j hjp
   obtain rfl:j=p.toNat:=by omega
   omega
  omega
 refine wp_exit (J8 _ _ (sAB rfl (wp_ret ?_)));refine retB rfl rfl ?_;refine⟨_,rfl,hE,congrArg Value.bool (decide_eq_true ⟨by omega,by omega,fun j hj=>h2 j (by omega)⟩).symm⟩
theorem splitV(b:Int)(hb:0≤b∧b<18446744073709551616)(w:World):
  Calls prog 185 #[.int .u64 b] w (Ret w fun v _=>v= .tuple #[.int .i64 (b / 4503599627370496 % 2048), .int .u64 (b % 4503599627370496)]):=by
 have e52:(2:Int) ^ (52:Int).toNat=4503599627370496:=by decide
 refine eE 9 func185 rfl rfl fun hE=>?_
 refine sq fun _ J1=>RS.asI rfl (RS.asI rfl ?_);refine nl J1 (sq fun _ J2=>?_);refine RS.mvI rfl ?_;refine RS.ob (D.shr_u64 rfl rfl (by omega) (by constructor<;>omega)) (fun z3=>?_);refine RS.o (D.conv rfl V49 V3 (W.i64 (by rw[e52];omega))) ?_;refine RS.o (D.sand rfl rfl) ?_;refine RS.mvI rfl ?_;refine RS.ob (D.band_u64 rfl rfl (by omega) (by omega)) (fun z4=>?_);refine RS.asI rfl (RS.asI rfl (nl J2 (wp_ret ?_)));refine retII ?_;refine⟨_,rfl,hE,?_⟩;rw[e52,S.sand_2047 _ (by omega),S.iand_full _ (by omega)]
theorem classV(b:Int)(hb:0≤b∧b<18446744073709551616)(w:World):
  Calls prog 177 #[.int .u64 b] w (Ret w fun v _=>v= .int .u8 (S.clsS b)):=by
 refine eE 25 func177 rfl rfl fun hE=>?_
 refine sq fun _ J1=>RS.asI rfl ?_;refine nl J1 (sq fun _ J2=>?_);refine RS.mvI rfl ?_;refine RS.call E185 (splitV _ (by omega) _) rfl (fun v3 w3 x3 A3=>?_);subst A3;refine RS.nm ?_;refine RS.move (v:= .tuple _) rfl ?_;refine RS.exI ?_;refine RS.exI ?_;refine RS.asI rfl (RS.asI rfl (nl J2 (wx fun _ J4=>wp_block (sq fun _ J5=>RS.mvI rfl ?_))));refine RS.oq ?_;refine RS.mvB rfl ?_;replace hE:=Ext.tr hE x3;refine RS.splite 13 rfl rfl (fun c6=>?_) (fun c6=>?_)
 ·refine RS.nm ?_;refine RS.wt 13 ?_;refine RS.mvI rfl ?_;refine RS.wt 13 ?_;refine RS.on ?_;refine RS.pk ?_;refine RS.asB rfl (nl J5 (C.ifn rfl (fun c7=>?_) (fun c7=>?_)))
  ·refine sAI rfl (wp_ret ?_);refine rI hE ?_;unfold S.clsS
   (repeat' split)<;>omega
  refine sq fun _ J9=>RS.mvI rfl ?_;refine RS.oq ?_;refine RS.asB rfl (nl J9 ?_);refine C.ife rfl (fun c10=>?_) (fun c10=>?_)
  ·refine sAI rfl (wp_ret ?_);refine rI hE ?_;unfold S.clsS
   (repeat' split)<;>omega
  refine sq fun _ J12=>RS.mvI rfl ?_;refine RS.on ?_;refine RS.asB rfl (nl J12 (C.ifn rfl (fun c13=>?_) (fun c13=>?_)))
  ·refine sAI rfl (wp_ret ?_);refine rI hE ?_;unfold S.clsS
   (repeat' split)<;>omega
  refine sq fun _ J15=>RS.mvI rfl ?_;refine RS.on ?_;refine RS.asB rfl (nl J15 (C.ifn rfl (fun c16=>?_) (fun c16=>?_)))
  ·refine sAI rfl (wp_ret ?_);refine rI hE ?_;unfold S.clsS
   (repeat' split)<;>omega
  refine wp_skip (J4 _ _ (sAI rfl (wp_ret ?_)));refine rI hE ?_;unfold S.clsS
  (repeat' split)<;>omega
 refine RS.nm ?_;refine RS.skF 13 ?_;refine RS.skF 13 ?_;refine RS.pkf ?_;refine RS.asB rfl (nl J5 ?_);refine C.iff rfl ?_;refine sq fun _ J19=>RS.mvI rfl ?_;refine RS.oq ?_;refine RS.asB rfl (nl J19 ?_);refine C.ife rfl (fun c20=>?_) (fun c20=>?_)
 ·refine sAI rfl (wp_ret ?_);refine rI hE ?_;unfold S.clsS
  (repeat' split)<;>omega
 refine sq fun _ J22=>RS.mvI rfl ?_;refine RS.on ?_;refine RS.asB rfl (nl J22 (C.ifn rfl (fun c23=>?_) (fun c23=>?_)))
 ·refine sAI rfl (wp_ret ?_);refine rI hE ?_;unfold S.clsS
  (repeat' split)<;>omega
 refine sq fun _ J25=>RS.mvI rfl ?_;refine RS.on ?_;refine RS.asB rfl (nl J25 (C.ifn rfl (fun c26=>?_) (fun c26=>?_)))
 ·refine sAI rfl (wp_ret ?_);refine rI hE ?_;unfold S.clsS
  (repeat' split)<;>omega
 refine wp_skip (J4 _ _ (sAI rfl (wp_ret ?_)));refine rI hE ?_;unfold S.clsS
 (repeat' split)<;>omega
theorem expR(b:Int)(hb:0≤b∧b<18446744073709551616)(w:World):
  Calls prog 187 #[.int .u64 b] w (Ret w fun v _=>v= .int .i64 (b / 4503599627370496 % 2048)):=by
 refine eE 6 func187 rfl rfl fun hE=>?_
 refine sq fun _ J1=>RS.asI rfl ?_;refine nl J1 (sq fun _ J2=>?_);refine RS.mvI rfl ?_;refine RS.o (D.rem rfl rfl (by omega) (by omega)) ?_;refine RS.o (D.quo rfl rfl (by omega) (by omega) (W.u64 (by omega))) ?_;refine RS.o (D.conv rfl V49 V3 (W.i64 (by omega))) ?_;refine RS.asI rfl (nl J2 (wp_ret ?_));refine retI rfl rfl ?_;refine⟨_,rfl,hE,congrArg (Value.int .i64) (S.exp_eq b (by omega))⟩
theorem fracR(b:Int)(hb:0≤b∧b<18446744073709551616)(w:World):
  Calls prog 188 #[.int .u64 b] w (Ret w fun v _=>v= .int .u64 (b % 4503599627370496)):=by
 refine eE 4 func188 rfl rfl fun hE=>?_
 refine sq fun _ J1=>RS.asI rfl ?_;refine nl J1 (sq fun _ J2=>?_);refine RS.mvI rfl ?_;refine RS.o (D.rem rfl rfl (by omega) (by omega)) ?_;refine RS.asI rfl (nl J2 (wp_ret ?_));refine retI rfl rfl ?_;exact⟨_,rfl,hE,rfl⟩
theorem classR(b:Int)(hb:0≤b∧b<18446744073709551616)(w:World):
  Calls prog 182 #[.int .u64 b] w (Ret w fun v _=>v= .int .u8 (S.clsS b)):=by
 refine eE 20 func182 rfl rfl fun hE=>?_
 refine sq fun _ J1=>RS.asI rfl ?_;refine nl J1 (sq fun _ J2=>?_);refine RS.mvI rfl ?_;refine RS.call E187 (expR _ (by omega) _) rfl (fun v3 w3 x3 A3=>?_);subst A3;refine RS.nm ?_;refine RS.mvI rfl ?_;refine RS.call E188 (fracR _ (by omega) _) rfl (fun v4 w4 x4 A4=>?_);subst A4;refine RS.nm ?_;refine RS.asI rfl (RS.asI rfl (nl J2 (wx fun _ J5=>sq fun _ J6=>RS.mvI rfl ?_)));refine RS.oq ?_;refine RS.mvB rfl ?_;replace hE:=Ext.tr (Ext.tr hE x3) x4;refine RS.splite 11 rfl rfl (fun c7=>?_) (fun c7=>?_)
 ·refine RS.nm ?_;refine RS.wt 11 ?_;refine RS.mvI rfl ?_;refine RS.wt 11 ?_;refine RS.oq ?_;refine RS.pk ?_;refine nl J6 ?_;refine C.ife rfl (fun c8=>?_) (fun c8=>?_)
  ·refine sAI rfl (wp_ret ?_);refine rI hE ?_;unfold S.clsS
   (repeat' split)<;>omega
  refine wp_skip (J5 _ _ (wx fun _ J10=>sq fun _ J11=>RS.mvI rfl ?_));refine RS.oq ?_;refine nl J11 ?_;refine C.ife rfl (fun c12=>?_) (fun c12=>?_)
  ·refine sAI rfl (wp_ret ?_);refine rI hE ?_;unfold S.clsS
   (repeat' split)<;>omega
  refine wp_skip (J10 _ _ (wx fun _ J14=>sq fun _ J15=>RS.mvI rfl ?_));refine RS.ol ?_;refine nl J15 (C.ifd rfl (fun c16=>?_) (fun c16=>?_))
  ·refine sAI rfl (wp_ret ?_);refine rI hE ?_;unfold S.clsS
   (repeat' split)<;>omega
  refine wp_skip (J14 _ _ (wx fun _ J18=>sq fun _ J19=>RS.mvI rfl ?_));refine RS.oq ?_;refine nl J19 ?_;refine C.ife rfl (fun c20=>?_) (fun c20=>?_)
  ·refine sAI rfl (wp_ret ?_);refine rI hE ?_;unfold S.clsS
   (repeat' split)<;>omega
  refine wp_skip (J18 _ _ (sAI rfl (wp_ret ?_)));refine rI hE ?_;unfold S.clsS
  (repeat' split)<;>omega
 refine RS.nm ?_;refine RS.skF 11 ?_;refine RS.skF 11 ?_;refine RS.pkf ?_;refine nl J6 ?_;refine C.iff rfl ?_;refine wp_skip (J5 _ _ (wx fun _ J23=>sq fun _ J24=>RS.mvI rfl ?_));refine RS.oq ?_;refine nl J24 ?_;refine C.ife rfl (fun c25=>?_) (fun c25=>?_)
 ·refine sAI rfl (wp_ret ?_);refine rI hE ?_;unfold S.clsS
  (repeat' split)<;>omega
 refine wp_skip (J23 _ _ (wx fun _ J27=>sq fun _ J28=>RS.mvI rfl ?_));refine RS.ol ?_;refine nl J28 (C.ifd rfl (fun c29=>?_) (fun c29=>?_))
 ·refine sAI rfl (wp_ret ?_);refine rI hE ?_;unfold S.clsS
  (repeat' split)<;>omega
 refine wp_skip (J27 _ _ (wx fun _ J31=>sq fun _ J32=>RS.mvI rfl ?_));refine RS.oq ?_;refine nl J32 ?_;refine C.ife rfl (fun c33=>?_) (fun c33=>?_)
 ·refine sAI rfl (wp_ret ?_);refine rI hE ?_;unfold S.clsS
  (repeat' split)<;>omega
 refine wp_skip (J31 _ _ (sAI rfl (wp_ret ?_)));refine rI hE ?_;unfold S.clsS
 (repeat' split)<;>omega
theorem canonV(b:Int)(hb:0≤b∧b<18446744073709551616)(w:World):
  Calls prog 158 #[.int .u64 b] w (Ret w fun v _=>v= .int .u64 (S.canS b)):=by
 refine eE 6 func158 rfl rfl fun hE=>?_
 refine sAI rfl (wx fun _ J2=>sq fun _ J3=>RS.mvI rfl ?_);refine RS.call E177 (classV _ (by omega) _) rfl (fun v4 w4 x4 A4=>?_);subst A4;refine RS.nm ?_;refine RS.oq ?_;refine nl J3 ?_;replace hE:=Ext.tr hE x4;refine C.ife rfl (fun c5=>?_) (fun c5=>?_)
 ·refine sAI rfl (wp_ret ?_);refine rI hE ?_;unfold S.canS;split<;>omega
 refine wp_skip (J2 _ _ (sq fun _ J7=>RS.mvI rfl (RS.asI rfl (nl J7 (wp_ret ?_)))));refine rI hE ?_;unfold S.canS;split<;>omega
theorem canonR(b:Int)(hb:0≤b∧b<18446744073709551616)(w:World):
  Calls prog 170 #[.int .u64 b] w (Ret w fun v _=>v= .int .u64 (S.canS b)):=by
 refine eE 6 func170 rfl rfl fun hE=>?_
 refine sAI rfl (wx fun _ J2=>sq fun _ J3=>RS.mvI rfl ?_);refine RS.call E182 (classR _ (by omega) _) rfl (fun v4 w4 x4 A4=>?_);subst A4;refine RS.nm ?_;refine RS.oq ?_;refine nl J3 ?_;replace hE:=Ext.tr hE x4;refine C.ife rfl (fun c5=>?_) (fun c5=>?_)
 ·refine sAI rfl (wp_ret ?_);refine rI hE ?_;unfold S.canS;split<;>omega
 refine wp_skip (J2 _ _ (sq fun _ J7=>RS.mvI rfl (RS.asI rfl (nl J7 (wp_ret ?_)))));refine rI hE ?_;unfold S.canS;split<;>omega
theorem numberV(n:Int)(w:World):
  Calls prog 118 #[.int .i64 n] w (Ret w fun v _=>v= .agg ([.int .u8 1, .int .i64 n, .int .u64 0, .string .empty]:List Value).toArray):=by
 refine eE 4 func118 rfl rfl fun hE=>?_
 refine sq fun _ J1=>?_
 refine RS.alloc T51 (fun b2 w2 e2 s2 x2 B2=>?_);refine RS.nm ?_;refine nl J1 (sq fun _ J3=>?_);refine RS.mvI rfl ?_;refine RS.o (D.buildS T51 F51 (ps:=[(0, .int _ _),(1, .int _ _)]) rfl rfl) ?_;refine RS.sa C51 B2 (fun w4 y4 N4=>?_);replace B2:=N4;refine nl J3 (wp_ret ?_);refine retA V51 C51 B2 4 ?_;replace hE:=(Ext.tr hE x2).trans y4.belo;exact⟨_,rfl,hE,rfl⟩
theorem floatV(b:Int)(hb:0≤b∧b<18446744073709551616)(w:World):
  Calls prog 119 #[.int .u64 b] w (Ret w fun v _=>v= .agg ([.int .u8 2, .int .i64 0, .int .u64 (S.canS b), .string .empty]:List Value).toArray):=by
 refine eE 5 func119 rfl rfl fun hE=>?_
 refine sq fun _ J1=>?_
 refine RS.alloc T51 (fun b2 w2 e2 s2 x2 B2=>?_);refine RS.nm ?_;refine nl J1 (sq fun _ J3=>?_);refine RS.mvI rfl ?_;refine RS.call E158 (canonV _ (by omega) _) rfl (fun v4 w4 x4 A4=>?_);subst A4;refine RS.nm ?_;refine RS.o (D.buildS T51 F51 (ps:=[(0, .int _ _),(2, .int _ _)]) rfl rfl) ?_;replace B2:=B2.ext x4;refine RS.sa C51 B2 (fun w5 y5 N5=>?_);replace B2:=N5;refine nl J3 (wp_ret ?_);refine retA V51 C51 B2 4 ?_;replace hE:=(Ext.tr (Ext.tr hE x2) x4).trans y5.belo;exact⟨_,rfl,hE,rfl⟩
theorem textV(s:ByteArray)(w:World):
  Calls prog 120 #[.string s] w (Ret w fun v _=>∃k2 t2 e2,v= .tuple #[.agg ([.int .u8 k2, .int .i64 0, .int .u64 0, .string t2]:List Value).toArray, .int .i64 e2]∧((S.TextOk s∧k2=3∧t2=s∧e2=0)∨(¬S.TextOk s∧k2=0∧t2=ByteArray.empty))):=by
 refine eE 13 func120 rfl rfl fun hE=>?_
 refine sq fun _ J1=>?_
 refine RS.alloc T51 (fun b2 w2 e2 s2 x2 B2=>?_);refine RS.nm ?_;refine RS.asI rfl (nl J1 (wx fun _ J3=>sq fun _ J4=>?_));refine RS.move (v:= .string _) rfl ?_;refine RS.o (D.lenStr rfl V9) ?_;refine RS.og ?_;refine nl J4 ?_;replace hE:=Ext.tr hE x2;refine C.ifd rfl (fun c5=>?_) (fun c5=>?_)
 ·have h1:=c5;refine sq fun _ J6=>?_
  refine RS.o (D.buildS T51 F51 (ps:=[]) rfl rfl) ?_;refine RS.sa C51 B2 (fun w7 y7 N7=>?_);replace B2:=N7;refine RS.asI rfl (nl J6 (wp_ret ?_));refine retAI V51 C51 B2 4 ?_;replace hE:=hE.trans y7.belo;exact⟨_,rfl,hE,_,_,_,rfl, .inr ⟨fun h=>by have:=h.1;omega,rfl,rfl⟩⟩
 have h1:=c5;refine wp_skip (J3 _ _ (wx fun _ J8=>sq fun _ J9=>?_));refine RS.move (v:= .string _) rfl ?_;refine RS.call E159 (Index32 _ _) rfl (fun v10 w10 x10 A10=>?_);obtain⟨j,rfl,hj⟩:=A10;refine RS.nm ?_;refine RS.oe ?_;refine nl J9 ?_;replace hE:=Ext.tr hE x10;replace B2:=B2.ext x10;refine C.ifd rfl (fun c11=>?_) (fun c11=>?_)
 ·have h2:=c11;refine sq fun _ J12=>?_
  refine RS.o (D.buildS T51 F51 (ps:=[]) rfl rfl) ?_;refine RS.sa C51 B2 (fun w13 y13 N13=>?_);replace B2:=N13;refine RS.asI rfl (nl J12 (wp_ret ?_));refine retAI V51 C51 B2 4 ?_;replace hE:=hE.trans y13.belo;exact⟨_,rfl,hE,_,_,_,rfl, .inr ⟨fun h=>by have:=hj.2 h.2;omega,rfl,rfl⟩⟩
 have h2:=c11;refine wp_skip (J8 _ _ (sq fun _ J14=>?_));refine RS.move (v:= .string _) rfl ?_;refine RS.o (D.buildS T51 F51 (ps:=[(0, .int _ _),(3, .string _)]) rfl rfl) ?_;refine RS.sa C51 B2 (fun w15 y15 N15=>?_);replace B2:=N15;refine RS.asI rfl (nl J14 (wp_ret ?_));refine retAI V51 C51 B2 4 ?_;replace hE:=hE.trans y15.belo;exact⟨_,rfl,hE,_,_,_,rfl, .inl ⟨⟨by omega,hj.1 (by omega)⟩,rfl,rfl,rfl⟩⟩
theorem C2:prog.cellsOf 2=1:=by kernel_rfl
theorem C9:prog.cellsOf 9=1:=by kernel_rfl
theorem C49:prog.cellsOf 49=1:=by kernel_rfl
theorem E89:Enters prog 89:= .mk func89 (by kernel_rfl) rfl
theorem E98:Enters prog 98:= .mk func98 (by kernel_rfl) rfl
theorem E118:Enters prog 118:= .mk func118 (by kernel_rfl) rfl
theorem E119:Enters prog 119:= .mk func119 (by kernel_rfl) rfl
theorem E120:Enters prog 120:= .mk func120 (by kernel_rfl) rfl
theorem E126:Enters prog 126:= .mk func126 (by kernel_rfl) rfl
theorem E155:Enters prog 155:= .mk func155 (by kernel_rfl) rfl
theorem E170:Enters prog 170:= .mk func170 (by kernel_rfl) rfl
theorem E171:Enters prog 171:= .mk func171 (by kernel_rfl) rfl
theorem E176:Enters prog 176:= .mk func176 (by kernel_rfl) rfl
theorem checkV(k num bits:Int)(t:ByteArray)(hk:0≤k∧k<256)(hnum: -9223372036854775808≤num∧num≤9223372036854775807)(hb:0≤bits∧bits<18446744073709551616)(w:World):
  Calls prog 89 #[.agg ([.int .u8 k, .int .i64 num, .int .u64 bits, .string t]:List Value).toArray] w (Ret w fun v _=>v= .int .i64 (S.valE k num bits t)):=by
 refine eE 31 func89 rfl rfl fun hE=>?_
 refine sq fun _ J1=>?_
 refine RS.box rfl rfl (fun b2 w2 e2 s2 x2 B2=>?_);refine RS.nm ?_;refine RS.asI rfl ?_;refine nl J1 (sq fun _ J3=>?_);refine RS.alloc T51 (fun b4 w4 e4 s4 x4 B4=>?_);refine RS.nm ?_;refine nl J3 (wx fun _ J5=>sq fun _ J6=>?_);refine RS.fl 0 V51 rfl C5 ?_;replace B2:=B2.ext x4;refine RS.ld V5 B2 ?_;refine nl J6 (wp_block (sq fun _ J7=>?_));refine RS.oq ?_;refine RS.asB rfl (nl J7 ?_);replace hE:=Ext.tr (Ext.tr hE x2) x4;refine C.ife rfl (fun c8=>?_) (fun c8=>?_)
 ·refine region ?_;refine RS.fl 1 V51 rfl C2 ?_;refine RS.ld V2 B2 ?_;refine RS.call E118 (numberV _ _) rfl (fun v9 w9 x9 A9=>?_);subst A9;refine RS.nm ?_;replace B4:=B4.ext x9;refine RS.sa C51 B4 (fun w10 y10 N10=>?_);replace B4:=N10;refine nl J5 (wx fun _ J11=>sq fun _ J12=>?_);replace B2:=(B2.ext x9).sto y10;refine RS.la V51 C51 B2 4 ?_;refine RS.la V51 C51 B4 4 ?_;refine RS.o (D.neA rfl rfl V51 rfl (by kernel_rfl) (by kernel_rfl) (by kernel_rfl)) ?_;refine RS.mvB rfl ?_;replace hE:=(Ext.tr hE x9).trans y10.belo;refine RS.splitb 27 rfl rfl (fun c13=>?_) (fun c13=>?_)
  ·refine RS.nm ?_;have hq:=of_decide_eq_false ((S.eqV _ _ _ _ _ _ _ _).symm.trans (Eq.mp (Bool.not_eq_true' _) c13));refine RS.skT 27 ?_;refine RS.skT 27 ?_;refine RS.skT 27 ?_;refine RS.pkt ?_;refine nl J12 ?_;refine C.ift rfl ?_;refine sAI rfl (wp_ret ?_);refine rI hE ?_;refine S.valE_neg ?_;grind [S.FineV,S.TextOk]
  refine RS.nm ?_;have hq:=of_decide_eq_true ((S.eqV _ _ _ _ _ _ _ _).symm.trans (Eq.mp (Bool.not_eq_false' _) c13));refine RS.wt 27 ?_;refine RS.fl 0 V51 rfl C5 ?_;refine RS.wt 27 ?_;refine RS.ld V5 B2 ?_;refine RS.wt 27 ?_;refine RS.oq ?_;refine RS.pk ?_;refine nl J12 ?_;refine C.ife rfl (fun c15=>?_) (fun c15=>?_)
  ·refine sAI rfl (wp_ret ?_);refine rI hE ?_;refine S.valE_neg ?_;grind [S.FineV,S.TextOk]
  refine wp_skip (J11 _ _ (sAI rfl (wp_ret ?_)));refine rI hE ?_;refine S.valE_pos ?_;grind [S.FineV,S.TextOk]
 refine wx fun _ J18=>region ?_;refine RS.oq ?_;refine RS.asB rfl (nl J18 ?_);refine C.ife rfl (fun c19=>?_) (fun c19=>?_)
 ·refine region ?_;refine RS.fl 2 V51 rfl C49 ?_;refine RS.ld V49 B2 ?_;refine RS.call E119 (floatV _ (by omega) _) rfl (fun v20 w20 x20 A20=>?_);subst A20;refine RS.nm ?_;replace B4:=B4.ext x20;refine RS.sa C51 B4 (fun w21 y21 N21=>?_);replace B4:=N21;refine nl J5 (wx fun _ J22=>sq fun _ J23=>?_);replace B2:=(B2.ext x20).sto y21;refine RS.la V51 C51 B2 4 ?_;refine RS.la V51 C51 B4 4 ?_;refine RS.o (D.neA rfl rfl V51 rfl (by kernel_rfl) (by kernel_rfl) (by kernel_rfl)) ?_;refine RS.mvB rfl ?_;replace hE:=(Ext.tr hE x20).trans y21.belo;refine RS.splitb 27 rfl rfl (fun c24=>?_) (fun c24=>?_)
  ·refine RS.nm ?_;have hq:=of_decide_eq_false ((S.eqV _ _ _ _ _ _ _ _).symm.trans (Eq.mp (Bool.not_eq_true' _) c24));refine RS.skT 27 ?_;refine RS.skT 27 ?_;refine RS.skT 27 ?_;refine RS.pkt ?_;refine nl J23 ?_;refine C.ift rfl ?_;refine sAI rfl (wp_ret ?_);refine rI hE ?_;refine S.valE_neg ?_;grind [S.FineV,S.TextOk]
  refine RS.nm ?_;have hq:=of_decide_eq_true ((S.eqV _ _ _ _ _ _ _ _).symm.trans (Eq.mp (Bool.not_eq_false' _) c24));refine RS.wt 27 ?_;refine RS.fl 0 V51 rfl C5 ?_;refine RS.wt 27 ?_;refine RS.ld V5 B2 ?_;refine RS.wt 27 ?_;refine RS.oq ?_;refine RS.pk ?_;refine nl J23 ?_;refine C.ife rfl (fun c26=>?_) (fun c26=>?_)
  ·refine sAI rfl (wp_ret ?_);refine rI hE ?_;refine S.valE_neg ?_;grind [S.FineV,S.TextOk]
  refine wp_skip (J22 _ _ (sAI rfl (wp_ret ?_)));refine rI hE ?_;refine S.valE_pos ?_;grind [S.FineV,S.TextOk]
 refine wx fun _ J29=>region ?_;refine RS.oq ?_;refine RS.asB rfl (nl J29 ?_);refine C.ife rfl (fun c30=>?_) (fun c30=>?_)
 ·refine region ?_;refine RS.fl 3 V51 rfl C9 ?_;refine RS.ld V9 B2 ?_;refine RS.call E120 (textV _ _) rfl (fun v31 w31 x31 A31=>?_);obtain⟨k2,t2,e2,rfl,hT⟩:=A31;refine RS.nm ?_;refine RS.move (v:= .tuple _) rfl ?_;refine RS.exA ?_;refine RS.exI ?_;replace B4:=B4.ext x31;refine RS.sa C51 B4 (fun w32 y32 N32=>?_);replace B4:=N32;refine nl J5 (wx fun _ J33=>sq fun _ J34=>?_);replace B2:=(B2.ext x31).sto y32;refine RS.la V51 C51 B2 4 ?_;refine RS.la V51 C51 B4 4 ?_;refine RS.o (D.neA rfl rfl V51 rfl (by kernel_rfl) (by kernel_rfl) (by kernel_rfl)) ?_;refine RS.mvB rfl ?_;replace hE:=(Ext.tr hE x31).trans y32.belo;refine RS.splitb 27 rfl rfl (fun c35=>?_) (fun c35=>?_)
  ·refine RS.nm ?_;have hq:=of_decide_eq_false ((S.eqV _ _ _ _ _ _ _ _).symm.trans (Eq.mp (Bool.not_eq_true' _) c35));refine RS.skT 27 ?_;refine RS.skT 27 ?_;refine RS.skT 27 ?_;refine RS.pkt ?_;refine nl J34 ?_;refine C.ift rfl ?_;refine sAI rfl (wp_ret ?_);refine rI hE ?_;refine S.valE_neg ?_;grind [S.FineV,S.TextOk]
  refine RS.nm ?_;have hq:=of_decide_eq_true ((S.eqV _ _ _ _ _ _ _ _).symm.trans (Eq.mp (Bool.not_eq_false' _) c35));refine RS.wt 27 ?_;refine RS.fl 0 V51 rfl C5 ?_;refine RS.wt 27 ?_;refine RS.ld V5 B2 ?_;refine RS.wt 27 ?_;refine RS.oq ?_;refine RS.pk ?_;refine nl J34 ?_;refine C.ife rfl (fun c37=>?_) (fun c37=>?_)
  ·refine sAI rfl (wp_ret ?_);refine rI hE ?_;refine S.valE_neg ?_;grind [S.FineV,S.TextOk]
  refine wp_skip (J33 _ _ (sAI rfl (wp_ret ?_)));refine rI hE ?_;refine S.valE_pos ?_;grind [S.FineV,S.TextOk]
 refine wp_skip (J5 _ _ (wx fun _ J40=>sq fun _ J41=>?_));refine RS.la V51 C51 B2 4 ?_;refine RS.la V51 C51 B4 4 ?_;refine RS.o (D.neA rfl rfl V51 rfl (by kernel_rfl) (by kernel_rfl) (by kernel_rfl)) ?_;refine RS.mvB rfl ?_;refine RS.splitb 27 rfl rfl (fun c42=>?_) (fun c42=>?_)
 ·refine RS.nm ?_;have hq:=of_decide_eq_false ((S.eqV _ _ _ _ _ _ _ _).symm.trans (Eq.mp (Bool.not_eq_true' _) c42));refine RS.skT 27 ?_;refine RS.skT 27 ?_;refine RS.skT 27 ?_;refine RS.pkt ?_;refine nl J41 ?_;refine C.ift rfl ?_;refine sAI rfl (wp_ret ?_);refine rI hE ?_;refine S.valE_neg ?_;grind [S.FineV,S.TextOk]
 refine RS.nm ?_;have hq:=of_decide_eq_true ((S.eqV _ _ _ _ _ _ _ _).symm.trans (Eq.mp (Bool.not_eq_false' _) c42));refine RS.wt 27 ?_;refine RS.fl 0 V51 rfl C5 ?_;refine RS.wt 27 ?_;refine RS.ld V5 B2 ?_;refine RS.wt 27 ?_;refine RS.oq ?_;refine RS.pk ?_;refine nl J41 ?_;refine C.ife rfl (fun c44=>?_) (fun c44=>?_)
 ·refine sAI rfl (wp_ret ?_);refine rI hE ?_;refine S.valE_neg ?_;grind [S.FineV,S.TextOk]
 refine wp_skip (J40 _ _ (sAI rfl (wp_ret ?_)));refine rI hE ?_;refine S.valE_pos ?_;grind [S.FineV,S.TextOk]
theorem checkR(k num bits:Int)(t:ByteArray)(hk:0≤k∧k<256)(hnum: -9223372036854775808≤num∧num≤9223372036854775807)(hb:0≤bits∧bits<18446744073709551616)(hs:t.size≤1000000)(w:World):
  Calls prog 143 #[.agg ([.int .u8 k, .int .i64 num, .int .u64 bits, .string t]:List Value).toArray] w (Ret w fun v _=>v= .int .i64 (S.valE k num bits t)):=by
 refine eE 53 func143 rfl rfl fun hE=>?_
 refine sq fun _ J1=>?_
 refine RS.box rfl rfl (fun b2 w2 e2 s2 x2 B2=>?_);refine RS.nm ?_;refine RS.asI rfl (nl J1 (wx fun _ J3=>sq fun _ J4=>?_));refine RS.fl 0 V51 rfl C5 ?_;refine RS.ld V5 B2 ?_;refine nl J4 (wp_block (sq fun _ J5=>?_));refine RS.oq ?_;refine RS.asB rfl (nl J5 ?_);replace hE:=Ext.tr hE x2;refine C.ife rfl (fun c6=>?_) (fun c6=>?_)
 ·refine wx fun _ J7=>region ?_;refine RS.fl 2 V51 rfl C49 ?_;refine RS.ld V49 B2 ?_;refine RS.oq ?_;refine RS.mvB rfl ?_;refine RS.splite 10 rfl rfl (fun c8=>?_) (fun c8=>?_)
  ·refine RS.nm ?_;refine RS.wt 10 ?_;refine RS.fl 3 V51 rfl C9 ?_;refine RS.wt 10 ?_;refine RS.ld V9 B2 ?_;refine RS.wt 10 ?_;refine RS.o (D.seq rfl rfl) ?_;refine RS.pk ?_;refine nl J7 ?_;refine C.ifb rfl (fun c9=>?_) (fun c9=>?_)
   ·have ht1:t=ByteArray.empty:=of_decide_eq_true ((strEq _ _).symm.trans c9);refine sAI rfl (wp_ret ?_);refine rI hE ?_;refine S.valE_pos ?_;grind [S.FineV,S.TextOk]
   have ht1:t≠ByteArray.empty:=of_decide_eq_false ((strEq _ _).symm.trans c9);refine wp_skip (J3 _ _ (sAI rfl (wp_ret ?_)));refine rI hE ?_;refine S.valE_neg ?_;grind [S.FineV,S.TextOk]
  refine RS.nm ?_;refine RS.skF 10 ?_;refine RS.skF 10 ?_;refine RS.skF 10 ?_;refine RS.pkf ?_;refine nl J7 ?_;refine C.iff rfl ?_;refine wp_skip (J3 _ _ (sAI rfl (wp_ret ?_)));refine rI hE ?_;refine S.valE_neg ?_;grind [S.FineV,S.TextOk]
 refine wx fun _ J13=>region ?_;refine RS.oq ?_;refine RS.asB rfl (nl J13 ?_);refine C.ife rfl (fun c14=>?_) (fun c14=>?_)
 ·refine wx fun _ J15=>?_
  refine regionX Ext [(0, .q),(1, .q),(2, .q),(3, .q),(4, .q),(5, .q),(6, .q),(7, .q),(8, .q),(9, .q),(10, .q),(12, .q),(13, .q),(11, .e),(14, .q),(15, .q)] mixed Ext.refl (fun h k=>h.tr k) (by kernel_rfl) (fun w16 x16=>?_);refine RX.fl 1 V51 rfl C2 ?_;replace B2:=B2.ext x16;refine RX.o (fun w' hw=>D.load rfl V2 rfl ((B2.ext hw).cell rfl)) ?_;refine RX.o (fun w' hw=>D.eq rfl rfl) ?_;refine RX.mvB rfl ?_;replace hE:=Ext.tr hE x16;refine RX.splite 20 rfl rfl (fun c17=>?_) (fun c17=>?_)
  ·refine RX.nm ?_;refine RX.wt 20 ?_;refine RX.fl 3 V51 rfl C9 ?_;refine RX.wt 20 ?_;refine RX.o (fun w' hw=>D.load rfl V9 rfl ((B2.ext hw).cell rfl)) ?_;refine RX.wt 20 ?_;refine RX.o (fun w' hw=>D.seq rfl rfl) ?_;refine RX.pick (v:= .bool _) rfl rfl ?_;refine RX.mvB rfl ?_;refine RX.splitb 25 rfl rfl (fun c18=>?_) (fun c18=>?_)
   ·refine RX.nm ?_;have ht2:t=ByteArray.empty:=of_decide_eq_true ((strEq _ _).symm.trans c18);refine RX.wt 25 ?_;refine RX.fl 2 V51 rfl C49 ?_;refine RX.wt 25 ?_;refine RX.o (fun w' hw=>D.load rfl V49 rfl ((B2.ext hw).cell rfl)) ?_;refine RX.wt 25 ?_;refine RX.fl 2 V51 rfl C49 ?_;refine RX.wt 25 ?_;refine RX.o (fun w' hw=>D.load rfl V49 rfl ((B2.ext hw).cell rfl)) ?_;refine RX.wt 25 ?_;refine RX.eff ?_;refine RS.call E170 (canonR _ (by omega) _) rfl (fun v19 w19 x19 A19=>?_);subst A19;refine RS.nm ?_;refine RS.nil ⟨x19,?_⟩;refine RX.wt 25 ?_;refine RX.o (fun w' hw=>D.eq rfl rfl) ?_;refine RX.pick (v:= .bool _) rfl rfl ?_;refine RX.nil (J15 _ _ ?_);replace hE:=Ext.tr hE x19;refine C.ife rfl (fun c20=>?_) (fun c20=>?_)
    ·refine sAI rfl (wp_ret ?_);refine rI hE ?_;refine S.valE_pos ?_;grind [S.FineV,S.TextOk]
    refine wp_skip (J3 _ _ (sAI rfl (wp_ret ?_)));refine rI hE ?_;refine S.valE_neg ?_;grind [S.FineV,S.TextOk]
   refine RX.nm ?_;have ht2:t≠ByteArray.empty:=of_decide_eq_false ((strEq _ _).symm.trans c18);refine RX.skF 25 ?_;refine RX.skF 25 ?_;refine RX.skF 25 ?_;refine RX.skF 25 ?_;refine RX.skF 25 ?_;refine RX.skF 25 ?_;refine RX.pick (v:= .bool false) rfl rfl ?_;refine RX.nil (J15 _ _ ?_);refine C.iff rfl ?_;refine wp_skip (J3 _ _ (sAI rfl (wp_ret ?_)));refine rI hE ?_;refine S.valE_neg ?_;grind [S.FineV,S.TextOk]
  refine RX.nm ?_;refine RX.skF 20 ?_;refine RX.skF 20 ?_;refine RX.skF 20 ?_;refine RX.pick (v:= .bool false) rfl rfl ?_;refine RX.mvB rfl ?_;refine RX.skF 25 ?_;refine RX.skF 25 ?_;refine RX.skF 25 ?_;refine RX.skF 25 ?_;refine RX.skF 25 ?_;refine RX.skF 25 ?_;refine RX.pick (v:= .bool false) rfl rfl ?_;refine RX.nil (J15 _ _ ?_);refine C.iff rfl ?_;refine wp_skip (J3 _ _ (sAI rfl (wp_ret ?_)));refine rI hE ?_;refine S.valE_neg ?_;grind [S.FineV,S.TextOk]
 refine wx fun _ J25=>region ?_;refine RS.oq ?_;refine RS.asB rfl (nl J25 ?_);refine C.ife rfl (fun c26=>?_) (fun c26=>?_)
 ·refine wx fun _ J27=>region ?_;refine RS.fl 1 V51 rfl C2 ?_;refine RS.ld V2 B2 ?_;refine RS.oq ?_;refine RS.mvB rfl ?_;refine RS.splite 38 rfl rfl (fun c28=>?_) (fun c28=>?_)
  ·refine RS.nm ?_;refine RS.wt 38 ?_;refine RS.fl 2 V51 rfl C49 ?_;refine RS.wt 38 ?_;refine RS.ld V49 B2 ?_;refine RS.wt 38 ?_;refine RS.oq ?_;refine RS.pk ?_;refine RS.mvB rfl ?_;refine RS.splite 43 rfl rfl (fun c29=>?_) (fun c29=>?_)
   ·refine RS.nm ?_;refine RS.wt 43 ?_;refine RS.fl 3 V51 rfl C9 ?_;refine RS.wt 43 ?_;refine RS.ld V9 B2 ?_;refine RS.wt 43 ?_;refine RS.o (D.lenStr rfl V9) ?_;refine RS.wt 43 ?_;refine RS.o (D.le rfl rfl) ?_;refine RS.pk ?_;refine RS.mvB rfl ?_;refine RS.splitd 49 rfl rfl (fun c30=>?_) (fun c30=>?_)
    ·refine RS.nm ?_;refine RS.wt 49 ?_;refine RS.fl 3 V51 rfl C9 ?_;refine RS.wt 49 ?_;refine RS.ld V9 B2 ?_;refine RS.wt 49 ?_;refine RS.call E171 (printable _ hs _) rfl (fun v31 w31 x31 A31=>?_);subst A31;refine RS.nm ?_;refine RS.pk ?_;refine nl J27 ?_;replace hE:=Ext.tr hE x31;refine C.ifb rfl (fun c32=>?_) (fun c32=>?_)
     ·have hp:=of_decide_eq_true c32;refine sAI rfl (wp_ret ?_);refine rI hE ?_;refine S.valE_pos ?_;grind [S.FineV,S.TextOk]
     have hp:=of_decide_eq_false c32;refine wp_skip (J3 _ _ (sAI rfl (wp_ret ?_)));refine rI hE ?_;refine S.valE_neg ?_;grind [S.FineV,S.TextOk]
    refine RS.nm ?_;refine RS.skF 49 ?_;refine RS.skF 49 ?_;refine RS.skF 49 ?_;refine RS.pkf ?_;refine nl J27 ?_;refine C.iff rfl ?_;refine wp_skip (J3 _ _ (sAI rfl (wp_ret ?_)));refine rI hE ?_;refine S.valE_neg ?_;grind [S.FineV,S.TextOk]
   refine RS.nm ?_;refine RS.skF 43 ?_;refine RS.skF 43 ?_;refine RS.skF 43 ?_;refine RS.skF 43 ?_;refine RS.pkf ?_;refine RS.mvB rfl ?_;refine RS.skF 49 ?_;refine RS.skF 49 ?_;refine RS.skF 49 ?_;refine RS.pkf ?_;refine nl J27 ?_;refine C.iff rfl ?_;refine wp_skip (J3 _ _ (sAI rfl (wp_ret ?_)));refine rI hE ?_;refine S.valE_neg ?_;grind [S.FineV,S.TextOk]
  refine RS.nm ?_;refine RS.skF 38 ?_;refine RS.skF 38 ?_;refine RS.skF 38 ?_;refine RS.pkf ?_;refine RS.mvB rfl ?_;refine RS.skF 43 ?_;refine RS.skF 43 ?_;refine RS.skF 43 ?_;refine RS.skF 43 ?_;refine RS.pkf ?_;refine RS.mvB rfl ?_;refine RS.skF 49 ?_;refine RS.skF 49 ?_;refine RS.skF 49 ?_;refine RS.pkf ?_;refine nl J27 ?_;refine C.iff rfl ?_;refine wp_skip (J3 _ _ (sAI rfl (wp_ret ?_)));refine rI hE ?_;refine S.valE_neg ?_;grind [S.FineV,S.TextOk]
 refine wp_skip (J3 _ _ (sAI rfl (wp_ret ?_)));refine rI hE ?_;refine S.valE_neg ?_;grind [S.FineV,S.TextOk]
theorem encV(k num bits:Int)(t:ByteArray)(hk:0≤k∧k<256)(hnum: -9223372036854775808≤num∧num≤9223372036854775807)(hb:0≤bits∧bits<18446744073709551616)(hF:S.FineV k num bits t)(hs:t.size≤1000)(w:World):
  Calls prog 99 #[.agg ([.int .u8 k, .int .i64 num, .int .u64 bits, .string t]:List Value).toArray] w (Ret w fun v w'=>∃a' n' c',v= .tuple #[.slice a' n' c', .int .i64 0]∧IOwn w.heap.size w' 5 .u8 a' n' c' (S.valS k num bits t)):=by
 have hk3:k=1∨k=2∨k=3:=by rcases hF with h|h|h<;>simp[h.1]
 refine eE 52 func99 rfl rfl fun hE=>?_
 refine sq fun _ J1=>?_
 refine RS.box rfl rfl (fun b2 w2 e2 s2 x2 B2=>?_);refine RS.nm ?_;refine RS.asS rfl (RS.asI rfl (nl J1 (wx fun _ J3=>sq fun _ J4=>?_)));refine RS.la V51 C51 B2 4 ?_;refine RS.call E89 (checkV _ _ _ _ hk hnum hb _) rfl (fun v5 w5 x5 A5=>?_);have zw5:=x5.size;subst A5;rw[←S.valE_pos hF];refine RS.nm ?_;refine RS.asI rfl ?_;refine nl J4 (sq fun _ J6=>?_);refine RS.mvI rfl ?_;refine RS.on ?_;refine nl J6 (C.ifn rfl (fun c7=>?_) (fun c7=>?_))
 ·exact absurd rfl c7
 refine wp_skip (J3 _ _ (sq fun _ J8=>?_));refine RS.fl 0 V51 rfl C5 ?_;replace B2:=B2.ext x5;refine RS.ld V5 B2 ?_;refine RS.bs1 V63 T5 (fun b9 w9 e9 s9 x9 B9=>?_);refine RS.nm ?_;have O1:IOwn w5.heap.size w9 5 .u8 (some ⟨b9,0,none⟩) 1 1 [_]:=IOwn.of_blk B9 rfl rfl (by omega) (.cons (by simp only[lim];omega) (.nil _)) (by decide);refine RS.asS rfl (nl J8 (wx fun _ J10=>sq fun _ J11=>?_));refine RS.fl 0 V51 rfl C5 ?_;replace B2:=B2.ext x9;refine RS.ld V5 B2 ?_;refine nl J11 (wp_block (sq fun _ J12=>?_));refine RS.oq ?_;refine RS.asB rfl (nl J12 ?_);replace hE:=Ext.tr (Ext.tr (Ext.tr hE x2) x5) x9;refine C.ife rfl (fun c13=>?_) (fun c13=>?_)
 ·refine region (RS.mvS rfl ?_);refine RS.fl 1 V51 rfl C2 ?_;refine RS.ld V2 B2 ?_;refine RS.call E126 (signedW _ hnum _) rfl (fun v14 w14 x14 A14=>?_);have zw14:=x14.size;obtain⟨a14,n14,c14,rfl,O2⟩:=A14;have hnl:=O2.len;have hnb:=S.numS_len (S.zig num);refine RS.nm ?_;replace O1:=O1.ext x14;refine RS.appendI O1 O2.row rfl rfl V63 T5 rfl (by omega) (by decide) (by omega) (fun a15 c15 w15 N15 x15=>?_);refine RS.nm ?_;replace hE:=Ext.tr hE x14;replace hE:=hE.trans (x15.belQ (fun _ h=>(O1.lo _ h).1));replace B2:=B2.ext x14;replace B2:=B2.prQ x15 (fun _ h=>(O1.lo _ h).1);replace O1:=N15;refine RS.asS rfl ?_;refine nl J10 (sq fun _ J16=>?_);refine RS.mvS rfl (RS.asS rfl (RS.asI rfl (nl J16 (wp_ret ?_))));refine retSI ?_;have e9:S.valS k num bits t=[k]++S.numS (S.zig num):=by unfold S.valS;rw[if_pos (by omega)]
  rw[e9];refine⟨_,rfl,hE,_,_,_,rfl,O1.base (fun k hk=>by have:=O1.lo k hk;omega)⟩
 refine wx fun _ J17=>region ?_;refine RS.oq ?_;refine RS.asB rfl (nl J17 ?_);refine C.ife rfl (fun c18=>?_) (fun c18=>?_)
 ·refine sAI rfl (wp_block ?_);refine C.loop (A:=Int×Option Addr×Nat×Nat) (fun p=>[(5, .slice p.2.1 p.2.2.1 p.2.2.2),(6, .int .i64 p.1)]) [28,29,30,31,32,33,34,35,36,37,38,39] (fun p w'=>Pr (fun k=>w5.heap.size≤k) w9 w'∧((-8≤p.1∧p.1≤56)∧p.1 % 8=0∧IOwn w5.heap.size w' 5 .u8 p.2.1 p.2.2.1 p.2.2.2 ([k]++(S.be8 bits).take ((56 - p.1) / 8).toNat))) (fun p=>(p.1+8).toNat) (56,some ⟨b9,0,none⟩,1,1) (by kernel_rfl) ?_ ?_
  ·exact⟨Pr.refl _ _,⟨by dsimp only;omega,by dsimp only;omega⟩,by dsimp only;omega,by simpa using O1⟩
  rintro p j w20 ⟨x20,hI⟩;have zw20:=x20.size;obtain⟨i,ao,no,co⟩:=p;dsimp only at hI;obtain⟨h1,h2,O1⟩:=hI;have hol:=O1.len;simp only[List.length_append,List.length_singleton,List.length_take,S.be8_len]at hol;refine C.nmU ?_;refine wx fun _ J21=>sq fun _ J22=>RS.mvI rfl ?_;refine RS.oe ?_;refine nl J22 ?_;replace hE:=hE.trans x20.belo;refine C.ifd rfl (fun c23=>?_) (fun c23=>?_)
  ·refine wp_skip (J21 _ _ (wx fun _ J24=>wp_block (region (RS.mvS rfl ?_))));refine RS.fl 2 V51 rfl C49 ?_;replace B2:=B2.pro x20;refine RS.ld V49 B2 ?_;refine RS.mvI rfl ?_;refine RS.ob (D.shr_u64 rfl rfl (by omega) (by constructor<;>omega)) (fun z25=>?_);refine RS.o (D.conv rfl V49 V5 (W.u8m _)) ?_;refine RS.bs1 V63 T5 (fun b26 w26 e26 s26 x26 B26=>?_);refine RS.nm ?_;have Q1:IRow .u8 (fun k=>k=b26) w26 (some ⟨b26,0,none⟩) 1 [_]:=IRow.of_blk B26 rfl rfl rfl (.cons (by simp only[lim];omega) (.nil _));replace O1:=O1.ext x26;refine RS.appendI O1 Q1 rfl rfl V63 T5 rfl (by omega) (by decide) (by omega) (fun a27 c27 w27 N27 x27=>?_);refine RS.nm ?_;replace hE:=Ext.tr hE x26;replace hE:=hE.trans (x27.belQ (fun _ h=>(O1.lo _ h).1));replace x20:=x20.ext x26;replace x20:=x20.prnQ x27 (fun _ h=>(O1.lo _ h).1);replace B2:=B2.ext x26;replace B2:=B2.prQ x27 (fun _ h=>(O1.lo _ h).1);replace O1:=N27;refine RS.asS rfl (nl J24 (region (RS.mvI rfl ?_)));refine RS.o (D.sub rfl rfl (W.i64 (by omega))) ?_;refine RS.asI rfl (RS.nil ?_);change Nx _ _ _ _ _ _ _ _;refine C.next (i - 8,_,_,_) ⟨rfl,rfl,trivial⟩ (by kernel_rfl) ?_ ?_
   ·refine⟨x20,⟨by dsimp only;omega,by dsimp only;omega⟩,by dsimp only;omega,?_⟩;dsimp only;rw[S.be8_snoc _ _ (by omega) h2,←List.append_assoc];exact O1
   dsimp only;omega
  have hneg:=c23;rw[show i= -8 by omega,show((56 - (-8:Int)) / 8).toNat=8 from rfl,List.take_of_length_le (by rw[S.be8_len];exact Nat.le_refl _)]at O1;refine wp_exit (J10 _ _ (sq fun _ J28=>RS.mvS rfl (RS.asS rfl (RS.asI rfl (nl J28 (wp_ret ?_))))));refine retSI ?_;have e9:S.valS k num bits t=[k]++S.be8 bits:=by unfold S.valS;rw[if_neg (by omega),if_pos (by omega)]
  rw[e9];refine⟨_,rfl,hE,_,_,_,rfl,O1.base (fun k hk=>by have:=O1.lo k hk;omega)⟩
 refine wx fun _ J29=>region ?_;refine RS.oq ?_;refine RS.asB rfl (nl J29 ?_);refine C.ife rfl (fun c30=>?_) (fun c30=>?_)
 ·refine wx fun _ J31=>region ?_;refine RS.fl 3 V51 rfl C9 ?_;refine RS.ld V9 B2 ?_;refine RS.convSB rfl V9 V63 V5 (fun a32 c32 w32 x32 g32 s32 R32=>?_);refine RS.nm ?_;have RT:=R32;refine RS.call E98 (bytesW _ _ _ _ _ RT (by omega)) rfl (fun v33 w33 x33 A33=>?_);have zw33:=x33.size;obtain⟨a33,n33,c33,rfl,O2⟩:=A33;have hnl:=O2.len;have hnb:=S.numS_len (t.size:Int);rw[List.length_append,bys_len]at hnl;refine RS.nm ?_;refine RS.move (v:= .tuple _) rfl ?_;refine RS.exS ?_;refine RS.exI ?_;refine RS.asS rfl (RS.asI rfl (nl J31 (region (RS.mvS rfl (RS.mvS rfl ?_)))));replace O1:=(O1.ext x32).ext x33;refine RS.appendI O1 O2.row rfl rfl V63 T5 rfl (by omega) (by decide) (by omega) (fun a34 c34 w34 N34 x34=>?_);refine RS.nm ?_;replace hE:=Ext.tr (Ext.tr hE x32) x33;replace hE:=hE.trans (x34.belQ (fun _ h=>(O1.lo _ h).1));replace B2:=(B2.ext x32).ext x33;replace B2:=B2.prQ x34 (fun _ h=>(O1.lo _ h).1);replace O1:=N34;refine RS.asS rfl ?_;refine nl J10 (sq fun _ J35=>?_);refine RS.mvS rfl (RS.asS rfl (RS.asI rfl (nl J35 (wp_ret ?_))));refine retSI ?_;have e9:S.valS k num bits t=[k]++(S.numS t.size++bys t):=by unfold S.valS;rw[if_neg (by omega),if_neg (by omega),if_pos (by omega)]
  rw[e9];refine⟨_,rfl,hE,_,_,_,rfl,O1.base (fun k hk=>by have:=O1.lo k hk;omega)⟩
 exfalso;omega
theorem valBytesR(k num bits:Int)(t:ByteArray)(hk:0≤k∧k<256)(hnum: -9223372036854775808≤num∧num≤9223372036854775807)(hb:0≤bits∧bits<18446744073709551616)(hF:S.FineV k num bits t)(hs:t.size≤1000)(w:World):
  Calls prog 156 #[.agg ([.int .u8 k, .int .i64 num, .int .u64 bits, .string t]:List Value).toArray] w (Ret w fun v w'=>∃a' n' c',v= .slice a' n' c'∧IOwn w.heap.size w' 5 .u8 a' n' c' (S.valS k num bits t)):=by
 have hk3:k=1∨k=2∨k=3:=by rcases hF with h|h|h<;>simp[h.1]
 refine eE 38 func156 rfl rfl fun hE=>?_
 refine sq fun _ J1=>?_
 refine RS.box rfl rfl (fun b2 w2 e2 s2 x2 B2=>?_);refine RS.nm ?_;have zw2:=x2.size;refine RS.asS rfl ?_;refine nl J1 (sq fun _ J3=>?_);refine RS.fl 0 V51 rfl C5 ?_;refine RS.ld V5 B2 ?_;refine RS.bs1 V63 T5 (fun b4 w4 e4 s4 x4 B4=>?_);refine RS.nm ?_;have O1:IOwn w2.heap.size w4 5 .u8 (some ⟨b4,0,none⟩) 1 1 [_]:=IOwn.of_blk B4 rfl rfl (by omega) (.cons (by simp only[lim];omega) (.nil _)) (by decide);refine RS.asS rfl (nl J3 (wx fun _ J5=>sq fun _ J6=>?_));refine RS.fl 0 V51 rfl C5 ?_;replace B2:=B2.ext x4;refine RS.ld V5 B2 ?_;refine nl J6 (wp_block (sq fun _ J7=>?_));refine RS.oq ?_;refine RS.asB rfl (nl J7 ?_);replace hE:=Ext.tr (Ext.tr hE x2) x4;refine C.ife rfl (fun c8=>?_) (fun c8=>?_)
 ·refine sq fun _ J9=>RS.mvS rfl ?_;refine RS.fl 1 V51 rfl C2 ?_;refine RS.ld V2 B2 ?_;refine RS.call E176 (signedR _ hnum _) rfl (fun v10 w10 x10 A10=>?_);have zw10:=x10.size;obtain⟨a10,n10,c10,rfl,O2⟩:=A10;have hnl:=O2.len;have hnb:=S.numS_len (S.zig num);refine RS.nm ?_;replace O1:=O1.ext x10;refine RS.appendI O1 O2.row rfl rfl V63 T5 rfl (by omega) (by decide) (by omega) (fun a11 c11 w11 N11 x11=>?_);refine RS.nm ?_;replace hE:=Ext.tr hE x10;replace hE:=hE.trans (x11.belQ (fun _ h=>(O1.lo _ h).1));replace B2:=B2.ext x10;replace B2:=B2.prQ x11 (fun _ h=>(O1.lo _ h).1);replace O1:=N11;refine RS.asS rfl (nl J9 (wp_ret ?_));refine retS ?_;have e9:S.valS k num bits t=[k]++S.numS (S.zig num):=by unfold S.valS;rw[if_pos (by omega)]
  rw[e9];refine⟨_,rfl,hE,_,_,_,rfl,O1.base (fun k hk=>by have:=O1.lo k hk;omega)⟩
 refine wx fun _ J12=>region ?_;refine RS.oq ?_;refine RS.asB rfl (nl J12 ?_);refine C.ife rfl (fun c13=>?_) (fun c13=>?_)
 ·refine wx fun _ J14=>sAI rfl (wp_block ?_);refine C.loop (A:=Int×Option Addr×Nat×Nat) (fun p=>[(3, .slice p.2.1 p.2.2.1 p.2.2.2),(4, .int .i64 p.1)]) [19,20,21,22,23,24,25,26,27,28,29,30,31] (fun p w'=>Pr (fun k=>w2.heap.size≤k) w4 w'∧((-1≤p.1∧p.1≤7)∧True∧IOwn w2.heap.size w' 5 .u8 p.2.1 p.2.2.1 p.2.2.2 ([k]++(S.be8 bits).take (7 - p.1).toNat))) (fun p=>(p.1+8).toNat) (7,some ⟨b4,0,none⟩,1,1) (by kernel_rfl) ?_ ?_
  ·exact⟨Pr.refl _ _,⟨by dsimp only;omega,by dsimp only;omega⟩,trivial,by simpa using O1⟩
  rintro p j w16 ⟨x16,hI⟩;have zw16:=x16.size;obtain⟨i,ao,no,co⟩:=p;dsimp only at hI;obtain⟨h1,h2,O1⟩:=hI;have hol:=O1.len;simp only[List.length_append,List.length_singleton,List.length_take,S.be8_len]at hol;refine C.nmU ?_;refine wx fun _ J17=>sq fun _ J18=>RS.mvI rfl ?_;refine RS.oe ?_;refine nl J18 ?_;replace hE:=hE.trans x16.belo;refine C.ifd rfl (fun c19=>?_) (fun c19=>?_)
  ·refine wp_skip (J17 _ _ (wx fun _ J20=>wp_block (region (RS.mvS rfl ?_))));refine RS.fl 2 V51 rfl C49 ?_;replace B2:=B2.pro x16;refine RS.ld V49 B2 ?_;refine RS.mvI rfl ?_;refine RS.o (D.mul rfl rfl (W.i64 (by omega))) ?_;refine RS.ob (D.shr_u64 rfl rfl (by omega) (by constructor<;>omega)) (fun z21=>?_);refine RS.o (D.conv rfl V49 V5 (W.u8m _)) ?_;refine RS.bs1 V63 T5 (fun b22 w22 e22 s22 x22 B22=>?_);refine RS.nm ?_;have Q1:IRow .u8 (fun k=>k=b22) w22 (some ⟨b22,0,none⟩) 1 [_]:=IRow.of_blk B22 rfl rfl rfl (.cons (by simp only[lim];omega) (.nil _));replace O1:=O1.ext x22;refine RS.appendI O1 Q1 rfl rfl V63 T5 rfl (by omega) (by decide) (by omega) (fun a23 c23 w23 N23 x23=>?_);refine RS.nm ?_;replace hE:=Ext.tr hE x22;replace hE:=hE.trans (x23.belQ (fun _ h=>(O1.lo _ h).1));replace x16:=x16.ext x22;replace x16:=x16.prnQ x23 (fun _ h=>(O1.lo _ h).1);replace B2:=B2.ext x22;replace B2:=B2.prQ x23 (fun _ h=>(O1.lo _ h).1);replace O1:=N23;refine RS.asS rfl (nl J20 (region (RS.mvI rfl ?_)));refine RS.o (D.sub rfl rfl (W.i64 (by omega))) ?_;refine RS.asI rfl (RS.nil ?_);change Nx _ _ _ _ _ _ _ _;refine C.next (i - 1,_,_,_) ⟨rfl,rfl,trivial⟩ (by kernel_rfl) ?_ ?_
   ·refine⟨x16,⟨by dsimp only;omega,by dsimp only;omega⟩,trivial,?_⟩;dsimp only;rw[S.be8_snoc' _ _ (by omega),←List.append_assoc];exact O1
   dsimp only;omega
  have hneg:=c19;rw[show i= -1 by omega,show(7 - (-1:Int)).toNat=8 from rfl,List.take_of_length_le (by rw[S.be8_len];exact Nat.le_refl _)]at O1;refine wp_exit (J14 _ _ (sq fun _ J24=>RS.mvS rfl (RS.asS rfl (nl J24 (wp_ret ?_)))));refine retS ?_;have e9:S.valS k num bits t=[k]++S.be8 bits:=by unfold S.valS;rw[if_neg (by omega),if_pos (by omega)]
  rw[e9];refine⟨_,rfl,hE,_,_,_,rfl,O1.base (fun k hk=>by have:=O1.lo k hk;omega)⟩
 refine wp_skip (J5 _ _ (sq fun _ J25=>RS.mvS rfl ?_));refine RS.fl 3 V51 rfl C9 ?_;refine RS.ld V9 B2 ?_;refine RS.convSB rfl V9 V63 V5 (fun a26 c26 w26 x26 g26 s26 R26=>?_);refine RS.nm ?_;have RT:=R26;refine RS.call E155 (textR _ _ _ _ _ RT (by omega)) rfl (fun v27 w27 x27 A27=>?_);have zw27:=x27.size;obtain⟨a27,n27,c27,rfl,O2⟩:=A27;have hnl:=O2.len;have hnb:=S.numS_len (t.size:Int);rw[List.length_append,bys_len]at hnl;refine RS.nm ?_;replace O1:=(O1.ext x26).ext x27;refine RS.appendI O1 O2.row rfl rfl V63 T5 rfl (by omega) (by decide) (by omega) (fun a28 c28 w28 N28 x28=>?_);refine RS.nm ?_;replace hE:=Ext.tr (Ext.tr hE x26) x27;replace hE:=hE.trans (x28.belQ (fun _ h=>(O1.lo _ h).1));replace B2:=(B2.ext x26).ext x27;replace B2:=B2.prQ x28 (fun _ h=>(O1.lo _ h).1);replace O1:=N28;refine RS.asS rfl (nl J25 (wp_ret ?_));refine retS ?_;have e9:S.valS k num bits t=[k]++(S.numS t.size++bys t):=by unfold S.valS;rw[if_neg (by omega),if_neg (by omega),if_pos (by omega)]
 rw[e9];refine⟨_,rfl,hE,_,_,_,rfl,O1.base (fun k hk=>by have:=O1.lo k hk;omega)⟩
end W
end Go.Proofs.YtfoaecjggdaieaaGreatDoor
