/- Contracts of functions of the program: what each returns and leaves in memory. Printed by gen.py and walk.py. -/
import Derived.Test.YtgebaodagaecmaaGreatDoorMg15
set_option maxRecDepth 10000
namespace Go.Proofs.YtgebaodagaecmaaGreatDoor
open Go Go.Hw
set_option linter.unusedSimpArgs false
set_option linter.unusedVariables false
theorem badd_bs (g:BaseG)(k:Nat)(F:List (At × Nat))(b:BS g k F)(hk:k≤100000000000)(x:At)(a:Option Addr)(c:Nat)(hl:x.args.length≤1099511627775)(hs:x.name.size≤1099511627776)(w:World)(hN:Jcy w)(hN1:¬ DD (baseA g) 0)(hr:RT w a x.args)(hne:∀ q,a=some q→0<x.args.length→¬ DD (baseA g) q.block)(hA:Holds (baseA g) w):
  Calls Tryz.prog 49 #[ptr g.p,atV x a c] w fun e w'=>∃ g',e=.returned (.tuple #[.bool (factB x && decide (x∉F.map (·.1))),.int .i64 (if factB x=true then 0 else 81)])∧(BS g' (k+1) (addF F x)∧g'.p=g.p)∧Turns (baseA g) (baseA g') w w':=by
 have h1:=b.vk
 have h2:=b.rk
 have h3:=b.fk
 have h4:=b.fs.length_eq
 refine (badd_calls g b.ok x a c hl hs (by omega) (by omega) (by omega) w hN hN1 hr hne hA).mono ?_
 rintro e w' ⟨he,g',ok,hp,hf,hv,hrs,ht⟩
 have hx:(x∉(Jci g).map (·.1))↔(x∉F.map (·.1)):=not_congr (b.mem x)
 exact ⟨g',by rw [he];simp only [hx],⟨b.add ok hf hv hrs,hp⟩,ht⟩
theorem Jnc (g:BaseG)(k:Nat)(F:List (At × Nat))(b:BS g k F)(w:World)(hA:Holds (baseA g) w):
  Calls Tryz.prog 17 #[ptr g.p] w fun e w'=>∃ g',e=.returned (.int .i64 ((n4F F:Nat):Int))∧(BS g' k (turnF F)∧g'.p=g.p)∧Turns (baseA g) (baseA g') w w':=by
 refine (bturn_calls g b.ok w hA).mono ?_
 rintro e w' ⟨he,ht⟩
 exact ⟨turnB g,by rw [he,n4F_perm b.fs],⟨b.turn,rfl⟩,ht⟩
structure AnsA where
 g:BaseG
 a:Option Addr
 c:Nat
 ys:List AG
theorem cloneT_calls (ts:List Tm)(a:Option Addr)(c:Nat)(hm:ts.length≤1099511627776)(w:World)(hr:RT w a ts):Calls Tryz.prog 156 #[.slice a ts.length c] w fun e w'=>∃ a' c',e=.returned (.slice a' ts.length c')∧Turns [] [rowT a' c' ts] w w':=by
 refine Jbl (args:=[.slice a ts.length c]) (fun _=>False) Tryz.func156 rfl Tryz.ntmps156 rfl rfl ?_
 refine Csr (Za rfl (Nn (Cs (Csr (Zm rfl (Zv (OV.eqlSN T.u27 rfl rfl) (Nn ?_)))))))
 refine WC.nx rfl (fun c4=>?_) (fun c4=>?_)
 ·skip
  refine Csr (Za rfl (Nn (WC.az ?_)))
  refine Xr ?_
  have hn:a=none:=by cases a <;> simp at c4;rfl
  have hl:ts=[]:=List.eq_nil_of_length_eq_zero (hr.nil hn)
  subst hl
  exact WX.ret1 rfl rfl rfl (fun w hw=>⟨none,0,rfl,(hw.rowNil 26 3).turned0⟩)
 skip
 refine Ck (Xn (Csr (WL.gm T.u27 T.z26 rfl ?_)))
 intro b5
 refine Zm rfl (WL.append (news:=ts.flatMap tmC) rfl rfl T.apT (fun _ _=>Src.of_rt hr.nil (fun _ hw=>hr.keeps hw.keeps)) (Jjh _) ⟨by omega,by unfold maxLen;omega⟩ rfl ?_)
 intro a7 c7
 refine Za rfl (Nn (WC.az ?_))
 refine WX.ret1 rfl rfl rfl (fun w hw=>⟨a7,c7,by rw [Nat.zero_add],?_⟩)
 rw [List.nil_append,Nat.zero_add] at hw
 exact hw.turned0
theorem bfind_calls (g:BaseG)(parts:Int)(x:At)(a:Option Addr)(c:Nat)(hl:x.args.length≤1099511627776)(w:World)(hr:RT w a x.args):Calls Tryz.prog 117 #[ptr g.p,.int .i64 parts,atV x a c] w fun e w'=>∃ z:Nat × Nat × Nat × Option Addr × Nat,e=.returned (.func (.func 157) #[] #[ptr z.1,ptr z.2.1,ptr z.2.2.1])∧Turns [] [oQ z.1 [ptr g.p] 35,oQ z.2.1 [.int .i64 parts] 3,oQ z.2.2.1 (atC x z.2.2.2.1 z.2.2.2.2) 29,rowT z.2.2.2.1 z.2.2.2.2 x.args] w w':=by
 refine Jbl (args:=[ptr g.p,.int .i64 parts,atV x a c]) (fun _=>False) Tryz.func117 rfl Tryz.ntmps117 rfl rfl ?_
 refine Csr (WL.box rfl rfl rfl ?_)
 intro b3
 refine WL.box rfl rfl rfl ?_
 intro b4
 refine WL.box rfl rfl rfl ?_
 intro b5
 refine Za rfl (Nn (Cs (Hd (fun w'=>w'.heap[b5]?=some (.cells (atC x a c).toArray 29 (0,0))) [] (fun _ hw=>hw.it (own b5 _) (by simp)) (m:=10) rfl ?_)))
 refine Hf 0 rfl (OV.f0 0 rfl T.u29 rfl) (Ht 1 rfl (OV.ai (cs:=tmC x.b) rfl T.u26 rfl T.z26 (fun _ hw j v hj=>by rw [Jap];exact Jb3 hw (o:=0) (cs':=tmC x.b) rfl j v hj)) (Hf 2 rfl (OV.f0 3 rfl T.u29 rfl) (Ht 3 rfl (OV.ah (v:=.string x.name) rfl T.u9 rfl (fun _ hw=>(Jav hw (o:=3) rfl).1)) (Hf 4 rfl (OV.f0 4 rfl T.u29 rfl) (Ht 5 rfl (OV.ah (v:=.slice a x.args.length c) rfl T.u27 rfl (fun _ hw=>(Jav hw (o:=4) rfl).1)) ?_)))))
 refine Hr (WH.two 6 8 rfl rfl (by kernel_rfl) (listed1:=[true,true,true,true,true,true,true,false,false,false]) rfl (listed2:=[true,true,true,true,true,true,false,false,true,false]) rfl (fl1:=false) rfl (fl2:=false) rfl ?_ ?_)
 ·refine WL.cT (ι:=Option Addr × Nat) (vs:=[.slice a x.args.length c]) (vv:=fun q=>.slice q.1 x.args.length q.2) (pp:=fun _=>True) [] (AA:=fun q=>[rowT q.1 q.2 x.args]) rfl (fun w' hw' _=>(cloneT_calls x.args a c hl w' (hr.keeps hw'.keeps)).mono (fun en w'' ⟨la,lc,h1,h2⟩=>⟨(la,lc),h1,trivial,h2⟩)) ?_
  rintro ⟨la,lc⟩ _
  refine Hc (fun _=>(fun _ hw=>hw.it (own b5 _) (by simp))) ?_
  refine Hf 7 rfl (OV.ao (xs:=[(0,.tmp 9),(1,.tmp 11),(2,.tmp 14)]) (pl:=[(0,3),(3,1),(4,1)]) (cs:=atC x la lc) T.u29 T.zr29 (by kernel_rfl) rfl (Jal (us:=tmC x.b) rfl rfl (Nat.le_of_ble_eq_true rfl) (Jal (us:=[_]) rfl rfl (Nat.le_of_ble_eq_true rfl) (Jal (us:=[_]) rfl rfl (Nat.le_of_ble_eq_true rfl) rfl)))) (Ho 8 rfl (fl':=false) rfl ?_)
  refine WL.alloc T.zr29 rfl ?_
  intro b7
  refine Hc (fun _=>(fun _ hw=>hw.it (own b5 _) (by simp))) ?_
  refine Ho 9 rfl (fl':=false) rfl ?_
  refine WL.ag (vs:=atC x la lc) rfl rfl rfl T.z29 rfl ?_
  refine Hc (fun _=>(fun _ hw=>hw.it (own b5 _) (by simp))) ?_
  refine He (Xn (Csr (Zv (OV.makeFunc rfl) (Za rfl (Nn (WC.az ?_))))))
  refine WX.ret1 rfl rfl rfl (fun w' hw=>⟨(b3,b4,b7,la,lc),rfl,?_⟩)
  exact (hw.pik [[oQ b7 (atC x la lc) 29],[rowT la lc x.args],[oQ b5 (atC x a c) 29],[oQ b4 [.int .i64 parts] 3],[oQ b3 [ptr g.p] 35]] [4,3,0,1] 5).turned0
 refine WL.alloc T.zr29 rfl ?_
 intro b7
 refine Hc (fun _=>(fun _ hw=>hw.it (own b5 _) (by simp))) ?_
 refine Ho 6 rfl (fl':=false) rfl ?_
 refine WL.cT (ι:=Option Addr × Nat) (vs:=[.slice a x.args.length c]) (vv:=fun q=>.slice q.1 x.args.length q.2) (pp:=fun _=>True) [] (AA:=fun q=>[rowT q.1 q.2 x.args]) rfl (fun w' hw' _=>(cloneT_calls x.args a c hl w' (hr.keeps hw'.keeps)).mono (fun en w'' ⟨la,lc,h1,h2⟩=>⟨(la,lc),h1,trivial,h2⟩)) ?_
 rintro ⟨la,lc⟩ _
 refine Hc (fun _=>(fun _ hw=>hw.it (own b5 _) (by simp))) ?_
 refine Hf 7 rfl (OV.ao (xs:=[(0,.tmp 9),(1,.tmp 11),(2,.tmp 14)]) (pl:=[(0,3),(3,1),(4,1)]) (cs:=atC x la lc) T.u29 T.zr29 (by kernel_rfl) rfl (Jal (us:=tmC x.b) rfl rfl (Nat.le_of_ble_eq_true rfl) (Jal (us:=[_]) rfl rfl (Nat.le_of_ble_eq_true rfl) (Jal (us:=[_]) rfl rfl (Nat.le_of_ble_eq_true rfl) rfl)))) (Ho 9 rfl (fl':=false) rfl ?_)
 refine WL.focus perm1 (WL.ag (vs:=atC x la lc) rfl rfl rfl T.z29 rfl ?_)
 refine Hc (fun _=>(fun _ hw=>hw.it (own b5 _) (by simp))) ?_
 refine He (Xn (Csr (Zv (OV.makeFunc rfl) (Za rfl (Nn (WC.az ?_))))))
 refine WX.ret1 rfl rfl rfl (fun w' hw=>⟨(b3,b4,b7,la,lc),rfl,?_⟩)
 exact (hw.pik [[oQ b7 (atC x la lc) 29],[rowT la lc x.args],[oQ b5 (atC x a c) 29],[oQ b4 [.int .i64 parts] 3],[oQ b3 [ptr g.p] 35]] [4,3,0,1] 5).turned0
theorem Jcy.lt {w:World}(h:Jcy w):0<w.heap.size:=World.block_lt_of_cell? w ⟨0,0,none⟩ (h 0 _ rfl)
structure RG where
 ys:List AG
 a:Option Addr
 c:Nat
structure RR (w:World) (a:Option Addr) (rs:List RG):Prop where
 nil:a=none→rs.length=0
 at_:∀ q,a=some q→∀ i r,rs[i]?=some r→w.cell? (q.add i)=some (.slice r.a r.ys.length r.c)
 each:∀ r∈rs,RA w r.a r.ys
theorem RR.get {w:World}{a:Option Addr}{rs:List RG}(h:RR w a rs){i:Nat}(hi:i<rs.length):∃ q r,a=some q∧rs[i]?=some r∧r∈rs∧RA w r.a r.ys∧w.cell? (q.add i)=some (.slice r.a r.ys.length r.c):=by
 cases a with
 | none=>have:=h.nil rfl;omega
 | some q=>exact ⟨q,rs[i],rfl,List.getElem?_eq_getElem hi,List.getElem_mem hi,h.each _ (List.getElem_mem hi),h.at_ q rfl i _ (List.getElem?_eq_getElem hi)⟩
theorem BS.mono {g:BaseG}{k m:Nat}{F:List (At × Nat)}(b:BS g k F)(h:k≤m):BS g m F:=⟨b.ok,b.fs,by have:=b.vk;omega,by have:=b.rk;omega,by have:=b.fk;omega⟩
theorem Jfy {α:Type}{l:List α}{j:Nat}{x:α}(h:l[j]?=some x):l.drop j=x::l.drop (j+1):=by
 obtain ⟨hj,rfl⟩:=List.getElem?_eq_some_iff.1 h
 exact List.drop_eq_getElem_cons hj
end Go.Proofs.YtgebaodagaecmaaGreatDoor
namespace Go.Hw
open Go Go.RowKit Go.Proofs Go.Shelf
section
variable {P:Program} {ρ:Ren} {w:World} {T:TypeId} {b c:Nat}
theorem pdqK_calls (L:SlLaysF0.n14 P ρ){α:Type}[Inhabited α](k:Nat)(hag:(P.underlying (ρ.t 24)).map aggD=some true)(hz:P.sz (ρ.t 24)=some k)(enc:α→List Value)(hk:∀ x,(enc x).length=k)(h1:∀ x,∀ v∈enc x,v.oneCell'=true)(cf:α→α→Int)(hO:Go.Sort.SWO (ltOf cf))(g:Nat)(hg:bodied P g=true)(b:Nat)(xs:List α)(limit:Nat)(hlim:limit<4611686018427387904)(w:World) 
  (hA:Holds [row T k (some ⟨b,0,none⟩) xs.length c (xs.flatMap enc)] w) (hcmp:∀ w',Fr (fun i=>i=b) w w'→∀ x y,Calls P g #[.agg (enc x).toArray,.agg (enc y).toArray] w' fun e w''=>e=.returned (.int .i64 (cf x y))∧Fr0 w' w'') (hsz:xs.length<4611686018427387904) :
  Calls P (ρ.f 14) #[.slice (some ⟨b,0,none⟩) xs.length c,.int .i64 0,.int .i64 (xs.length:Int),.int .i64 (limit:Int),.func (.func g) #[] #[]] w fun e w'=>e=.returned (.tuple #[])∧∃ ys:List α,ys.Perm xs∧ys.Pairwise (fun x y=>ltOf cf y x=false) ∧
   Turns [row T k (some ⟨b,0,none⟩) xs.length c (xs.flatMap enc)] [row T k (some ⟨b,0,none⟩) ys.length c (ys.flatMap enc)] w w':=by
 have hφ:=hA.φ _ (.head _)
 have hlt:b<w.heap.size:=hA.lt _ (.head _) b ⟨_,rfl,rfl⟩
 obtain ⟨d,hu,hd⟩:=Option.map_eq_some_iff.1 hag
 have hflat:Go.Sort.flatK enc k xs.toArray=(xs.flatMap enc).toArray:=by
  apply Array.toList_inj.1
  rw [Jiy hk]
 have e0:xs.toArray.size=xs.length:=by simp
 have hcon:=AnyQ.pdqsortCmpFunc_all (P:=P) (ρ:=ρ) L k (fun w=>by rw [Jcv hu,hd]) (fun w=>Hw.run_sizeOf hz w) enc cf g #[] hO b 0 c xs.toArray w (fun args w=>Jdw hg args w)
  (fun m os dk hs x y=>(hcmp _ (sort_frK (F:=Go.Sort.flatK enc k dk) (n:=m) (os:=os)) x y).mono fun e w' ⟨he,hw⟩=>⟨he,Fr.grown hw⟩)
  ⟨hk,h1,(show Go.Sort.Holds id w b 0 (Go.Sort.flatK enc k xs.toArray) by rw [hflat];exact Jj5 hφ),hlt⟩
  (xs.toArray.size+1) 0 xs.toArray.size limit xs.toArray w (by omega) rfl (SWK.start (show Go.Sort.Holds id w b 0 (Go.Sort.flatK enc k xs.toArray) by rw [hflat];exact Jj5 hφ)) (Nat.zero_le _) (Nat.le_refl _) (by simpa using hsz) hlim (Or.inl rfl)
 rw [e0] at hcon
 refine hcon.mono ?_
 rintro e w' ⟨rfl,n,os,rfl⟩
 have hso:=Go.Sort.pdq_sorts (ltOf cf) hO xs.toArray 0 xs.length limit true true (Nat.zero_le _) (by simp) (Or.inl rfl)
 obtain ⟨d',hd'⟩:∃ d',d'=Go.Sort.pdq (ltOf cf) xs.toArray 0 xs.length limit true true:=⟨_,rfl⟩
 rw [← hd'] at hso
 rw [← hd']
 obtain ⟨hp1,hp2⟩:=Jgt (d:=xs.toArray) (by rw [e0];exact hso.1)
 have hl:d'.toList.length=xs.length:=by rw [Array.length_toList,hp2,e0]
 refine ⟨rfl,d'.toList,by simpa using hp1,Jdr (by rw [hp2,e0]) hso.2,?_⟩
 have ht:=sort_turnsK (T:=T) (c:=c) (F:=Go.Sort.flatK enc k d') (n:=n) (os:=os) hA (by rw [Go.Sort.size_flatK,hp2,e0])
 rw [Jiy hk] at ht
 rw [hl]
 exact ht
end
end Go.Hw
namespace Go.Proofs.YtgebaodagaecmaaGreatDoor
open Go Go.Hw
theorem bitsLen_calls (n:Nat)(hn:n<4611686018427387904)(w:World):Calls Tryz.prog 91 #[.int .u64 (n:Int)] w fun e w'=>e=.returned (.int .i64 ((Lib.bitLen n:Nat):Int))∧w'=w:=by
 have h:=Any.bits_Len (SlLaysF0.n15.bits Go.Proofs.Tryz.bitsLen) (n:Int) w (by omega) (by omega)
 rwa [Int.toNat_natCast] at h
structure Bd where
 v:Int
 t:Tm
instance:Inhabited Bd:=⟨⟨0,T0⟩⟩
def bdC (x:Bd):List Value:=.int .i64 x.v::tmC x.t
theorem bdC_len (x:Bd):(bdC x).length=4:=rfl
theorem bdC_one (x:Bd):∀ v∈bdC x,v.oneCell'=true:=by simp [bdC,tmC,Value.oneCell']
abbrev rowB (a:Option Addr)(c:Nat)(ys:List Bd):Hw.Item:=row 64 4 a ys.length c (ys.flatMap bdC)
def cmpB (x y:Bd):Int:=cmpN x.v y.v
theorem cmpB_swo:Go.Sort.SWO (Go.Proofs.ltOf cmpB):=⟨fun a=>cmpN_ok.swo.irrefl a.v,fun a b c=>cmpN_ok.swo.trans a.v b.v c.v,fun a b c=>cmpN_ok.swo.ntrans a.v b.v c.v⟩
theorem Fr0.of_eq {w w':World}(h:w'=w):Fr0 w w':=by subst h;exact Fr.refl _ _
theorem _root_.Go.Hw.OV.fieldAddrA {P:Program}{n:Nat}{ds:DS}{e:Env}{S:World→Prop}{dst:Option Tmp}{t lt:TypeId}{p:String}{af:Array Edge}{x:Operand}{a:Addr}{f off s:Nat}{fs:Array Field}{g:Option (Nat × Bool)}(hx:ev e x=some (.pointer (some a)))(hu:P.underlying lt=some (.struct fs))(hf:(fs[f]?).map (fun q=>(q.offset,P.sz q.type))=some (off,some (s+1))):
  OV P n ds e S ⟨dst,.fieldAddr lt x f,t,p,af,g⟩ (.pointer (some (a.add off))):=fun _ w ha _=>by
 obtain ⟨q,hq,h⟩:=Option.map_eq_some_iff.1 hf
 simp only [Prod.mk.injEq] at h
 simp [execOp,ha.eval hx,Instr.fieldAt,run_underlying hu,Instr.sureAddr,hq,fieldPlace,Hw.run_sizeOf h.2 w,h.1]
theorem cmpB_calls (x y:Bd)(w:World):Calls Tryz.prog 147 #[.agg (bdC x).toArray,.agg (bdC y).toArray] w fun e w'=>e=.returned (.int .i64 (cmpB x y))∧Fr0 w w':=by
 refine Jbl (args:=[.agg (bdC x).toArray,.agg (bdC y).toArray]) (fun _=>False) Tryz.func147 rfl Tryz.ntmps147 rfl rfl ?_
 refine Csr (WL.box rfl rfl rfl ?_)
 intro b2
 refine WL.box rfl rfl rfl ?_
 intro b3
 refine Za rfl (Nn (Csr (Zv (OV.f0 0 rfl T.u64 rfl) (Zv (OV.l1 (v:=.int .i64 x.v) rfl T.u3 rfl (.tail _ (.head _)) rfl) (Zv (OV.f0 0 rfl T.u64 rfl) (Zv (OV.l1 (v:=.int .i64 y.v) rfl T.u3 rfl (.head _) rfl) (WL.au (v:=.int .i64 (cmpN x.v y.v)) (by kernel_rfl) rfl rfl (fun w' hw'=>Jfd _ _ w') ?_)))))))
 refine Za rfl (Nn (WC.az ?_))
 exact WX.ret1 rfl rfl rfl (fun w' hw=>⟨rfl,hw.fr⟩)
theorem sortB_calls (b:Nat)(c:Nat)(xs:List Bd)(hl:xs.length≤1099511627776)(w:World)(hA:Holds [rowB (some ⟨b,0,none⟩) c xs] w):Calls Tryz.prog 146 #[.slice (some ⟨b,0,none⟩) xs.length c,.func (.func 147) #[] #[]] w fun e w'=>e=.returned (.tuple #[])∧∃ ys:List Bd,(ys.Perm xs∧ys.Pairwise (fun x y=>Go.Proofs.ltOf cmpB y x=false))∧Turns [rowB (some ⟨b,0,none⟩) c xs] [rowB (some ⟨b,0,none⟩) c ys] w w':=by
 refine Jdl hA (args:=[.slice (some ⟨b,0,none⟩) xs.length c,.func (.func 147) #[] #[]]) Tryz.func146 rfl Tryz.ntmps146 rfl rfl ?_
 refine Csr (Zm rfl (Zv (OV.ae rfl T.u54) (Za rfl (Nn (Cr (Zm rfl (Zm rfl (Zm rfl (Zv (OV.convU64 T.u3 T.u151 rfl (by omega)) (WL.au (v:=.int .i64 ((Lib.bitLen xs.length:Nat):Int)) (by kernel_rfl) rfl rfl (fun w' hw'=>(bitsLen_calls xs.length (by omega) w').mono (fun en w'' ⟨h1,h2⟩=>⟨h1,Fr0.of_eq h2⟩)) ?_))))))))))
 refine Zm rfl ?_
 have hlim:Lib.bitLen xs.length<4611686018427387904:=Nat.lt_of_le_of_lt (Lib.bitLen_le xs.length 62 (by omega) (by omega)) (by omega)
 refine WL.cT (ι:=List Bd) (vs:=[.slice (some ⟨b,0,none⟩) xs.length c,.int .i64 0,.int .i64 (xs.length:Int),.int .i64 ((Lib.bitLen xs.length:Nat):Int),.func (.func 147) #[] #[]]) (vv:=fun _=>.tuple #[]) (pp:=fun ys=>ys.Perm xs∧ys.Pairwise (fun x y=>Go.Proofs.ltOf cmpB y x=false)) [rowB (some ⟨b,0,none⟩) c xs] (AA:=fun ys=>[rowB (some ⟨b,0,none⟩) c ys]) rfl (fun w' hw' hH=>(pdqK_calls (P:=Tryz.prog) Go.Proofs.Tryz.sortB (T:=64) (c:=c) 4 (by kernel_rfl) T.z64 bdC bdC_len bdC_one cmpB cmpB_swo 147 (by kernel_rfl) b xs (Lib.bitLen xs.length) hlim w' hH (fun w2 _ x y=>cmpB_calls x y w2) (by omega)).mono (fun en w'' ⟨h1,ys,h2,h3,h4⟩=>⟨ys,h1,⟨h2,h3⟩,h4⟩)) ?_
 rintro ys hys
 refine Nl ?_
 exact WX.ret0 rfl rfl (fun w' hw=>⟨rfl,ys,hys,hw.turned⟩)
end Go.Proofs.YtgebaodagaecmaaGreatDoor
namespace Go.Hw
open Go Go.RowKit Go.Proofs
section
variable {P:Program} {w0 ws:World} {M I:Nat→Prop} {ow:List Item} {ops:Array Oper} {Q:Post} {n:Nat} {ds:DS} {e:Env} {rest:List Oper}
theorem WL.makeRow0 {t lt T:TypeId}{p:String}{af:Array Edge}{k m s:Nat}{x y:Operand}{zs:Array Value}{bytes:Nat} 
  (hx:ev e x=some (.int .i64 0)) (hy:ev e y=some (.int .i64 (m:Int))) (hu:P.underlying lt=some (.slice T)) (hz:P.sz T=some s) (hzr:P.zr T=some zs) (hb:(P.info? T).map (·.bytes)=some bytes) (hm:bytes*m≤281474976710656∧m≤9223372036854775807∧m≤maxLen) (hk:Nat.blt k n=true)
  (h:∀ b,WL P ops Q n ds ((k,.slice (some ⟨b,0,none⟩) 0 m)::e) (Sat w0 M I ws (row T s (some ⟨b,0,none⟩) 0 m []::ow)) rest) :
  WL P ops Q n ds e (Sat w0 M I ws ow) (⟨some k,.makeSlice lt x y,t,p,af,none⟩::rest):=by
 refine WL.io (ι:=Nat) (vv:=fun b=>.slice (some ⟨b,0,none⟩) 0 m) (SS:=fun b=>Sat w0 M I ws (row T s (some ⟨b,0,none⟩) 0 m []::ow)) ?_ hk h
 intro a w ha hw
 unfold Program.sz at hz
 unfold Program.zr at hzr
 obtain ⟨i,hi,hsz⟩:=Option.map_eq_some_iff.1 hz
 obtain ⟨i2,hi2,h2⟩:=Option.bind_eq_some_iff.1 hzr
 obtain ⟨zv,hzv,hzc⟩:=Option.map_eq_some_iff.1 h2
 obtain ⟨i3,hi3,hby⟩:=Option.map_eq_some_iff.1 hb
 obtain rfl:=Option.some.inj (hi.symm.trans hi2)
 obtain rfl:=Option.some.inj (hi.symm.trans hi3)
 have hr:=run_make (P:=P) w lt T i zv hu hi hzv .i64 .i64 0 (m:Int) (by omega) (by omega) (by
  have h':((bytes*m:Nat):Int)≤((281474976710656:Nat):Int):=Int.ofNat_le.2 hm.1
  rw [Int.natCast_mul] at h'
  rw [hby]
  exact h') (by omega)
 have hrow:(row T s (some ⟨w.heap.size,0,none⟩) 0 m []).φ (w.alloc (.cells (madeCells zv.cells ((m:Int).toNat*i.size)) T)):=by
  refine ⟨by simp,.inr ⟨w.heap.size,m,madeCells zv.cells ((m:Int).toNat*i.size),rfl,Nat.zero_le _,Jc2 _ _,Nat.zero_le _,hm.2.2,?_,by simp⟩⟩
  rw [Int.toNat_natCast,hsz];simp [madeCells]
 refine ⟨w.heap.size,w.alloc (.cells (madeCells zv.cells ((m:Int).toNat*i.size)) T),?_,hw.fresh (Fr.alloc _ _) hrow (fun b hb=>?_)⟩
 ·simp [execOp,ha.eval hx,ha.eval hy,hr]
 ·obtain ⟨q,hq,rfl⟩:=hb
  cases hq
  simp
end
end Go.Hw
namespace Go.Proofs.YtgebaodagaecmaaGreatDoor
open Go Go.Hw
def sb (ys:List Bd):List (Int × Tm):=ys.map fun b=>(b.v,b.t)
abbrev upB (ys:List Bd):Prop:=ys.Pairwise fun x y=>Go.Proofs.ltOf cmpB y x=false
theorem sb_up {ys:List Bd}(h:upB ys)(hn:((sb ys).map (·.1)).Nodup):(sb ys).Pairwise fun p q=>p.1<q.1:=by
 unfold sb at hn ⊢
 rw [List.map_map] at hn
 rw [List.pairwise_map]
 have hn2:ys.Pairwise fun x y=>x.v≠y.v:=by
  unfold List.Nodup at hn
  rwa [List.pairwise_map] at hn
 refine List.Pairwise.imp (fun {x y} hh=>?_) (h.and hn2)
 obtain ⟨h1,h2⟩:=hh
 have h3:¬ cmpB y x<0:=by simpa [Go.Proofs.ltOf] using h1
 unfold cmpB cmpN at h3
 show x.v<y.v
 split at h3
 ·omega
 ·omega
def kvT (l:List (Int × Tm)):List (Int × Value):=l.map fun q=>(q.1,tmV q.2)
abbrev iV (k:Int):Value:=.int .i64 k
theorem Jn7 (l:List (Int × Tm)):(kvT l).length=l.length:=by simp [kvT]
theorem kvT_get {l:List (Int × Tm)}{i:Nat}{q:Int × Value}(h:(kvT l)[i]?=some q):∃ x,l[i]?=some x∧x∈l∧q=(x.1,tmV x.2)∧i<l.length:=by
 unfold kvT at h
 rw [List.getElem?_map] at h
 obtain ⟨x,hx,rfl⟩:=Option.map_eq_some_iff.1 h
 exact ⟨x,hx,List.mem_of_getElem? hx,rfl,(List.getElem?_eq_some_iff.1 hx).1⟩
theorem Vs.count {α:Type}{rs:List α}{vis:List Nat}(h:Vs rs vis):vis.length≤rs.length:=by
 have h2:vis.Perm ((List.range rs.length).filter fun i=>decide (i∈vis)):=(List.perm_ext_iff_of_nodup h.nd (List.nodup_range.filter _)).2 fun i=>by
  simp only [List.mem_filter,List.mem_range,decide_eq_true_eq]
  exact ⟨fun hi=>⟨h.lt i hi,hi⟩,fun hi=>hi.2⟩
 rw [h2.length_eq]
 exact Nat.le_trans (List.length_filter_le _ _) (by simp)
theorem T.apBd:appB Tryz.prog 54 64 4 40=true:=by kernel_rfl
theorem sorted_calls (mb:Nat)(l:List (Int × Tm))(hl:l.length≤1048576)(w:World)(hM:w.heap[mb]?=some (mapK iV (kvT l))):Calls Tryz.prog 100 #[.map (some mb)] w fun e w'=>∃ b c ys,e=.returned (.slice (some ⟨b,0,none⟩) ys.length c)∧((sb ys).Perm l∧upB ys)∧Turns [] [rowB (some ⟨b,0,none⟩) c ys] w w':=by
 refine Jbl (args:=[.map (some mb)]) (fun _=>False) Tryz.func100 rfl Tryz.ntmps100 rfl rfl ?_
 refine Csr (Za rfl (Nn (Csr (Zm rfl ?_))))
 refine WL.val (OV.lenMap T.u175 rfl (fun _ hw=>((hw.snap mb (Array.getElem?_eq_some_iff.1 hM).1).2.trans hM))) rfl ?_
 refine WL.makeRow0 (m:=l.length) (bytes:=40) rfl (by rw [Jn7];rfl) T.u54 T.z64 T.zr64 (by kernel_rfl) ⟨by omega,by omega,by unfold maxLen;omega⟩ rfl ?_
 intro b8
 refine Za rfl (Nn (Cs (Csr (Zm rfl ?_))))
 refine WL.range T.u175 rfl (fun _ hw=>((hw.snap mb (Array.getElem?_eq_some_iff.1 hM).1).2.trans hM)) rfl ?_
 intro it10
 refine Nn (Cb ?_)
 refine WC.da (fun (vis:List Nat) (la:Option Addr) (lc:Nat) (ys:List Bd)=>[(0,.map (some mb)),(3,.slice la ys.length lc),(10,.pointer (some ⟨it10,0,none⟩))])
   (fun vis la lc ys w'=>(Vs l vis∧(ys.length=vis.length∧sb ys=visL l vis)∧((∃ b,la=some ⟨b,0,none⟩)∨0<ys.length))∧Sat0 w (own it10 (iterK mb (kvT l).length vis)::rowB la lc ys::[]) w') (fun vis _ _ _=>unseen (kvT l).length vis) [] (some ⟨b8,0,none⟩) l.length [] Y3 (fun w' hw=>⟨⟨Vs.start _,⟨rfl,rfl⟩,.inl ⟨_,rfl⟩⟩,hw.perm (List.Perm.of_eq (by first | rfl | (simp;rfl)))⟩) ?_
 intro vis la lc ys
 refine WC.pure (fun hi=>?_)
 obtain ⟨hvs,⟨hyl,hsv⟩,hla⟩:=hi
 have hvc0:=hvs.count
 refine Csr ?_
 refine WL.next (enc:=iV) (kv:=kvT l) rfl rfl (fun _ hw=>((hw.snap mb (Array.getElem?_eq_some_iff.1 hM).1).2.trans hM)) ?_ ?_
 ·intro hall
  refine Zv (OV.extract rfl rfl) (Nn (Cs (WC.bu rfl ?_)))
  refine Ce (Xe (Xe (Xh (Xn (Cs ?_)))))
  refine WC.mq (fun w' hw=>(show ∃ b,la=some ⟨b,0,none⟩ from by
   rcases hla with h | h
   ·exact h
   ·exact Jeh (hw.it (rowB la lc ys) (.tail _ (.head _))) (by omega))) (fun hla2=>?_)
  obtain ⟨bq,rfl⟩:=hla2
  refine Cr (Zm rfl (WL.focus (ow':=rowB (some ⟨bq,0,none⟩) lc ys::own it10 (iterK mb (kvT l).length vis)::[]) perm1 ?_))
  refine WL.cT (ι:=List Bd) (vs:=[.slice (some ⟨bq,0,none⟩) ys.length lc,.func (.func 147) #[] #[]]) (vv:=fun _=>.tuple #[]) (pp:=fun zs=>zs.Perm ys∧upB zs) [rowB (some ⟨bq,0,none⟩) lc ys] (AA:=fun zs=>[rowB (some ⟨bq,0,none⟩) lc zs]) rfl (fun w' hw' hH=>(sortB_calls bq lc ys (by omega) w' hH).mono (fun en w'' ⟨h1,zs,h2,h3⟩=>⟨zs,h1,h2,h3⟩)) ?_
  rintro zs ⟨hzs,hzu⟩
  have hzl:zs.length=ys.length:=hzs.length_eq
  refine Nn (Csr (Zm rfl (Za rfl (Nn (WC.az ?_)))))
  refine WX.ret1 rfl rfl (by rw [← hzl];rfl) (fun w' hw=>⟨bq,lc,zs,rfl,⟨(hzs.map _).trans (by rw [show ys.map _=sb ys from rfl,hsv];exact hvs.all (fun i hi=>hall i (by rw [Jn7];exact hi))),hzu⟩,?_⟩)
  exact (hw.pik [[rowB (some ⟨bq,0,none⟩) lc zs],[own it10 (iterK mb (kvT l).length vis)]] [0] 2).turned0
 intro i q hi2 hv
 obtain ⟨x,hx,hxm,rfl,hil⟩:=kvT_get hi2
 refine Zv (OV.extract rfl rfl) (Nn (Cs (WC.cj rfl ?_)))
 refine Ck (Xn (Cb (Csr ?_)))
 refine WL.val (OV.entry (enc:=iV) (kv:=kvT l) (i:=i) rfl (fun _ hw=>hw.it _ (.head _)) (fun _ hw=>((hw.snap mb (Array.getElem?_eq_some_iff.1 hM).1).2.trans hM)) hi2) rfl ?_
 refine Zv (OV.extract rfl rfl) (Zv (OV.extract rfl rfl) (WL.alloc T.zr26 rfl ?_))
 intro b5
 refine Za rfl (WL.ag (vs:=tmC x.2) rfl rfl rfl T.z26 rfl ?_)
 refine Nn (Cr (Zm rfl (Zm rfl (Zv (OV.lN (cs:=tmC x.2) rfl T.u26 rfl T.z26 (.head _)) (Zv (OV.ao (xs:=[(0,.tmp 17),(1,.tmp 18)]) (pl:=[(0,1),(1,3)]) (cs:=bdC ⟨x.1,x.2⟩) T.u64 T.zr64 (by kernel_rfl) rfl (Jal (us:=[_]) rfl rfl (Nat.le_of_ble_eq_true rfl) (Jal (us:=tmC x.2) rfl rfl (Nat.le_of_ble_eq_true rfl) rfl))) (WL.bh (cs:=bdC ⟨x.1,x.2⟩) T.u54 T.z64 T.zr64 rfl rfl (by omega) (by omega) rfl ?_))))))
 intro b20
 have hvc:=hvs.count
 refine WL.focus (ow':=rowB la lc ys::oQ b20 (bdC ⟨x.1,x.2⟩) 64::oQ b5 (tmC x.2) 26::own it10 (iterK mb (kvT l).length (vis++[i]))::[]) (pmP [_,_,_,_] [3,0,1,2]) ?_
 refine WL.append (news:=bdC ⟨x.1,x.2⟩) rfl rfl T.apBd (fun _ _=>Jcs (.tail _ (.head _)) rfl) (bdC_one _) ⟨by omega,by unfold maxLen;omega⟩ rfl ?_
 intro a21 c21
 refine Za rfl (Nl (Xb ?_))
 have el:ys.length+1=(ys++[(⟨x.1,x.2⟩:Bd)]).length:=by simp
 have ef:ys.flatMap bdC++bdC ⟨x.1,x.2⟩=(ys++[(⟨x.1,x.2⟩:Bd)]).flatMap bdC:=by simp
 exact WX.ce (vis++[i]) a21 c21 (ys++[⟨x.1,x.2⟩]) ⟨rfl,by rw [← el];rfl,rfl,trivial⟩ (fun w' hw=>⟨⟨hvs.step hil hv,⟨by simp [hyl],by rw [Jlf hx,← hsv];simp [sb]⟩,.inr (by simp)⟩,by
  rw [el,ef] at hw
  exact hw.pik [[rowB a21 c21 (ys++[⟨x.1,x.2⟩])],[oQ b20 (bdC ⟨x.1,x.2⟩) 64],[oQ b5 (tmC x.2) 26],[own it10 (iterK mb (kvT l).length (vis++[i]))]] [3,0] 4⟩) (Jjj (by rw [Jn7];exact hil) hv)
def gotT:List (Int × Tm)→Int→Option Tm
 | [],_=>none
 | q::l,a=>if a=q.1 then some q.2 else gotT l a
def upsT:List (Int × Tm)→Int→Tm→List (Int × Tm)
 | [],a,t=>[(a,t)]
 | q::l,a,t=>if a=q.1 then (a,t)::l else q::upsT l a t
theorem Jni (l:List (Int × Tm))(a:Int):got (kvT l) a=(gotT l a).map tmV:=by
 have key:∀ (l:List (Int × Tm)) (i:Nat),(spot (kvT l) a i).map (·.2)=(gotT l a).map tmV:=by
  intro l
  induction l with
  | nil=>intro i;rfl
  | cons q l ih=>
   intro i
   show (if a=q.1 then some (i,tmV q.2) else spot (kvT l) a (i+1)).map (·.2)=(if a=q.1 then some q.2 else gotT l a).map tmV
   by_cases h:a=q.1
   ·rw [if_pos h,if_pos h];rfl
   ·rw [if_neg h,if_neg h];exact ih (i+1)
 exact key l 0
theorem Jjw (a:Int)(t:Tm):∀ l:List (Int × Tm),ups (kvT l) a (tmV t)=kvT (upsT l a t)
 | []=>rfl
 | q::l=>by
  show (if a=q.1 then (a,tmV t)::kvT l else (q.1,tmV q.2)::ups (kvT l) a (tmV t))=kvT (if a=q.1 then (a,t)::l else q::upsT l a t)
  by_cases h:a=q.1
  ·rw [if_pos h,if_pos h];rfl
  ·rw [if_neg h,if_neg h,Jjw a t l];rfl
theorem Jjx (a:Int)(t:Tm):∀ l:List (Int × Tm),(upsT l a t).length≤l.length+1
 | []=>by simp [upsT]
 | q::l=>by
  have:=Jjx a t l
  unfold upsT
  split <;> simp <;> omega
def Jiw:List (Int × Tm)→List Tm→List Tm→Bool
 | _,[],_=>true
 | _,_::_,[]=>true
 | m,t::ts,u::us=>if varB t=false then (if t=u then Jiw m ts us else false) else if (gotT m t.n).isSome∧(gotT m t.n).getD T0≠u then false else Jiw (upsT m t.n u) ts us
def plc (x:At):List Tm:=x.b::x.args
def Jcz (p x:At):Bool:=decide (p.name=x.name∧p.args.length=x.args.length∧¬ (varB p.b=true∧x.b.kind=0)) && Jiw [] (plc p) (plc x)
theorem Jie:KeyLaw Tryz.prog 3 iV:=KeyLaw.int T.u3
theorem Jes (x:At)(a:Option Addr)(c:Nat)(hl:x.args.length≤1048576)(w:World)(hr:RT w a x.args):Calls Tryz.prog 99 #[atV x a c] w fun e w'=>∃ b lc,e=.returned (.slice (some ⟨b,0,none⟩) (plc x).length lc)∧Turns [] [rowT (some ⟨b,0,none⟩) lc (plc x)] w w':=by
 refine Jbl (args:=[atV x a c]) (fun _=>False) Tryz.func99 rfl Tryz.ntmps99 rfl rfl ?_
 refine Csr (WL.box rfl rfl rfl ?_)
 intro b1
 refine Za rfl (Nn (Csr (Zv (OV.f0 0 rfl T.u29 rfl) (Zv (OV.ai (cs:=tmC x.b) rfl T.u26 rfl T.z26 (fun _ hw j v hj=>by rw [Jap];exact Jbo hw (.head _) (o:=0) (cs':=tmC x.b) rfl j v hj)) (WL.bh (cs:=tmC x.b) T.u27 T.z26 T.zr26 rfl rfl (by omega) (by omega) rfl ?_)))))
 intro b5
 refine WL.weak (S':=Sat0 w (row 26 3 (some ⟨b5,0,none⟩) 1 1 (tmC x.b)::oQ b1 (atC x a c) 29::[])) (fun w' hw=>hw.asRow (m:=1) rfl (by decide)) ?_
 refine Zv (OV.f0 4 rfl T.u29 rfl) (Zv (OV.l1 (v:=.slice a x.args.length c) rfl T.u27 rfl (.tail _ (.head _)) rfl) (WL.append (news:=x.args.flatMap tmC) rfl rfl T.apT (fun _ _=>Src.of_rt hr.nil (fun _ hw=>hr.keeps hw.keeps)) (Jjh _) ⟨by omega,by unfold maxLen;omega⟩ rfl ?_))
 intro a8 c8
 refine Za rfl (Nn (WC.az ?_))
 have el:1+x.args.length=(plc x).length:=by simp [plc];omega
 have ef:tmC x.b++x.args.flatMap tmC=(plc x).flatMap tmC:=rfl
 rw [el,ef]
 refine WX.know (fun w' hw=>(show ∃ b,a8=some ⟨b,0,none⟩ from Jeh (hw.it (rowT a8 c8 (plc x)) (.head _)) (by simp [plc]))) (fun hq=>?_)
 obtain ⟨bq,rfl⟩:=hq
 exact WX.ret1 rfl rfl rfl (fun w' hw=>⟨bq,c8,rfl,(hw.pik [[rowT (some ⟨bq,0,none⟩) c8 (plc x)],[oQ b1 (atC x a c) 29]] [0] 2).turned0⟩)
structure RBd (w:World) (a:Option Addr) (ys:List Bd):Prop where
 nil:a=none→ys.length=0
 at_:∀ q,a=some q→∀ i y,ys[i]?=some y→∀ j v,(bdC y)[j]?=some v→w.cell? ((q.add (i*4)).add j)=some v
theorem RBd.keeps {w w':World}{a:Option Addr}{ys:List Bd}(h:RBd w a ys)(k:Keeps w w'):RBd w' a ys:=⟨h.nil,fun q hq i t ht j v hv=>k _ _ (h.at_ q hq i t ht j v hv)⟩
theorem RBd.nil0 (w:World):RBd w none []:=⟨fun _=>rfl,fun q hq=>by cases hq⟩
theorem RBd.get {w:World}{a:Option Addr}{ys:List Bd}(h:RBd w a ys){i:Nat}(hi:i<ys.length):∃ q y,a=some q∧ys[i]?=some y∧y∈ys∧∀ j v,(bdC y)[j]?=some v→w.cell? ((q.add (i*4)).add j)=some v:=by
 cases a with
 | none=>have:=h.nil rfl;omega
 | some q=>exact ⟨q,ys[i],rfl,List.getElem?_eq_getElem hi,List.getElem_mem hi,h.at_ q rfl i _ (List.getElem?_eq_getElem hi)⟩
theorem RBd.of_row {w0 ws w:World}{M I:Nat→Prop}{ow:List Hw.Item}{a:Option Addr}{c:Nat}{ys:List Bd}(hw:Sat w0 M I ws ow w)(hm:rowB a c ys∈ow):RBd w a ys:=by
 refine ⟨fun ha=>?_,fun q hq i t ht j v hv=>?_⟩
 ·rcases (Jdt hw hm).2 with ⟨_,h,_⟩ | ⟨b,hb,_⟩
  ·exact h
  ·rw [ha] at hb;cases hb
 ·subst hq
  have hj:j<4:=(List.getElem?_eq_some_iff.1 hv).1
  have h1:=Jdf hw hm (i*4+j) v (by rw [Jco bdC_len ys i j t ht hj];exact hv)
  rwa [Jdm] at h1
theorem gotT_at {v:Int}:∀ {ys:List Bd} {i:Nat} {y:Bd},ys[i]?=some y→y.v=v→(∀ (j:Nat) (z:Bd),j<i→ys[j]?=some z→z.v≠v)→gotT (sb ys) v=some y.t
 | [],i,y,h,_,_=>by simp at h
 | x::ys,i,y,h,hv,hn=>by
  show (if v=x.v then some x.t else gotT (sb ys) v)=some y.t
  cases i with
  | zero=>simp only [List.getElem?_cons_zero,Option.some.injEq] at h;subst h;rw [if_pos hv.symm]
  | succ i=>
   rw [if_neg (fun e=>hn 0 x (by omega) rfl e.symm)]
   exact gotT_at (i:=i) (by simpa using h) hv (fun j z hj hz=>hn (j+1) z (by omega) (by simpa using hz))
theorem gotT_no {v:Int}:∀ {ys:List Bd},(∀ (j:Nat) (z:Bd),ys[j]?=some z→z.v≠v)→gotT (sb ys) v=none
 | [],_=>rfl
 | x::ys,hn=>by
  show (if v=x.v then some x.t else gotT (sb ys) v)=none
  rw [if_neg (fun e=>hn 0 x rfl e.symm)]
  exact gotT_no (fun j z hz=>hn (j+1) z (by simpa using hz))
def becD (s:List (Int × Tm))(t:Tm):Tm:=if varB t=true then (gotT s t.n).getD t else t
def appD (s:List (Int × Tm))(x:At):At:=⟨becD s x.b,x.name,x.args.map (becD s)⟩
theorem Jkj (k:Int)(u:Tm)(v:Int):∀ m:List (Int × Tm),gotT (upsT m k u) v=if v=k then some u else gotT m v
 | []=>by simp [gotT,upsT]
 | q::m=>by
  unfold upsT
  by_cases h:k=q.1
  ·rw [if_pos h]
   show (if v=k then some u else gotT m v)=if v=k then some u else if v=q.1 then some q.2 else gotT m v
   by_cases h2:v=k
   ·rw [if_pos h2,if_pos h2]
   ·rw [if_neg h2,if_neg h2,if_neg (fun e=>h2 (e.trans h.symm))]
  ·rw [if_neg h]
   show (if v=q.1 then some q.2 else gotT (upsT m k u) v)=if v=k then some u else if v=q.1 then some q.2 else gotT m v
   rw [Jkj k u v m]
   by_cases h2:v=q.1
   ·rw [if_pos h2,if_neg (fun e=>h (e.symm.trans h2)),if_pos h2]
   ·rw [if_neg h2,if_neg h2]
abbrev Bn:=List (Int × Tm)
def SB (s:Bn):Prop:=s.Pairwise fun p q=>p.1<q.1
theorem Jkk {v:Int}:∀ {s:Bn},(∀ q∈s,v<q.1)→gotT s v=none
 | [],_=>rfl
 | q::s,h=>by
  unfold gotT
  rw [if_neg (by have:=h q (by simp);omega)]
  exact Jkk fun r hr=>h r (List.mem_cons_of_mem _ hr)
theorem SB.ext:∀ {s t:Bn},SB s→SB t→(∀ v,gotT s v=gotT t v)→s=t
 | [],[],_,_,_=>rfl
 | [],q::t,_,_,h=>by have:=h q.1;simp [gotT] at this
 | p::s,[],_,_,h=>by have:=h p.1;simp [gotT] at this
 | p::s,q::t,hs,ht,h=>by
  obtain ⟨hs1,hs2⟩:=List.pairwise_cons.1 hs
  obtain ⟨ht1,ht2⟩:=List.pairwise_cons.1 ht
  have e:p.1=q.1:=by
   rcases Int.lt_trichotomy p.1 q.1 with hl | hl | hl
   ·have h1:=h p.1
    rw [Jkk (s:=q::t) (fun r hr=>by
     rcases List.mem_cons.1 hr with rfl | hr
     ·exact hl
     ·have:=ht1 r hr;omega)] at h1
    simp [gotT] at h1
   ·exact hl
   ·have h1:=h q.1
    rw [Jkk (s:=p::s) (fun r hr=>by
     rcases List.mem_cons.1 hr with rfl | hr
     ·exact hl
     ·have:=hs1 r hr;omega)] at h1
    simp [gotT] at h1
  have e2:p.2=q.2:=by have h1:=h p.1;simpa [gotT,e] using h1
  have e3:s=t:=SB.ext hs2 ht2 fun v=>by
   by_cases hv:v=p.1
   ·rw [Jkk (fun r hr=>by rw [hv];exact hs1 r hr),Jkk (fun r hr=>by rw [hv,e];exact ht1 r hr)]
   ·have h1:=h v
    unfold gotT at h1
    rwa [if_neg hv,if_neg (by rw [← e];exact hv)] at h1
  rw [e3,show p=q from Prod.ext e e2]
def NK (s:Bn):Prop:=(s.map (·.1)).Nodup
theorem SB.nk {s:Bn}(h:SB s):NK s:=by
 unfold NK List.Nodup
 rw [List.pairwise_map]
 exact List.Pairwise.imp (fun {p q} hpq e=>by omega) h
theorem Jeu {v:Int}{z:Tm}:∀ {s:Bn},NK s→(gotT s v=some z↔(v,z)∈s)
 | [],_=>by simp [gotT]
 | q::s,h=>by
  obtain ⟨h1,h2⟩:=List.nodup_cons.1 h
  unfold gotT
  by_cases e:v=q.1
  ·rw [if_pos e]
   constructor
   ·intro hh;simp only [Option.some.injEq] at hh;rw [e,← hh];exact List.mem_cons_self
   ·intro hh
    rcases List.mem_cons.1 hh with rfl | hh
    ·rfl
    ·exact absurd (List.mem_map.2 ⟨_,hh,e⟩) h1
  ·rw [if_neg e,Jeu h2]
   constructor
   ·exact List.mem_cons_of_mem _
   ·intro hh
    rcases List.mem_cons.1 hh with rfl | hh
    ·exact absurd rfl e
    ·exact hh
theorem gotT_perm {s t:Bn}(hs:NK s)(h:s.Perm t)(v:Int):gotT s v=gotT t v:=by
 have ht:NK t:=by unfold NK at hs ⊢;exact (List.Perm.nodup_iff (h.map (·.1))).1 hs
 cases hg:gotT t v with
 | some z=>exact (Jeu hs).2 (h.mem_iff.2 ((Jeu ht).1 hg))
 | none=>
  cases hg2:gotT s v with
  | none=>rfl
  | some z=>rw [(Jeu ht).2 (h.mem_iff.1 ((Jeu hs).1 hg2))] at hg;cases hg
def insB (q:Int × Tm):Bn→Bn
 | []=>[q]
 | r::l=>if q.1<r.1 then q::r::l else r::insB q l
def srtB (l:Bn):Bn:=l.foldr insB []
theorem Jlw (q:Int × Tm):∀ l:Bn,(insB q l).Perm (q::l)
 | []=>.refl _
 | r::l=>by
  unfold insB
  split
  ·exact .refl _
  ·exact ((Jlw q l).cons r).trans (List.Perm.swap q r l)
theorem Jli:∀ l:Bn,(srtB l).Perm l
 | []=>.refl _
 | q::l=>(Jlw q (srtB l)).trans ((Jli l).cons q)
theorem insB_sb {q:Int × Tm}:∀ {l:Bn},SB l→(∀ r∈l,r.1≠q.1)→SB (insB q l)
 | [],_,_=>List.pairwise_singleton _ _
 | r::l,h,hn=>by
  obtain ⟨h1,h2⟩:=List.pairwise_cons.1 h
  unfold insB
  split
  ·rename_i hl
   refine List.pairwise_cons.2 ⟨fun x hx=>?_,h⟩
   rcases List.mem_cons.1 hx with rfl | hx
   ·exact hl
   ·have:=h1 x hx;omega
  ·rename_i hl
   refine List.pairwise_cons.2 ⟨fun x hx=>?_,insB_sb h2 fun y hy=>hn y (List.mem_cons_of_mem _ hy)⟩
   rcases List.mem_cons.1 ((Jlw q l).mem_iff.1 hx) with rfl | hx
   ·have:=hn r (by simp);omega
   ·exact h1 x hx
theorem Jng:∀ {l:Bn},NK l→SB (srtB l)
 | [],_=>List.Pairwise.nil
 | q::l,h=>by
  obtain ⟨h1,h2⟩:=List.nodup_cons.1 h
  refine insB_sb (Jng h2) fun r hr e=>h1 ?_
  exact List.mem_map.2 ⟨r,(Jli l).mem_iff.1 hr,e⟩
theorem Jki {l:Bn}(h:NK l)(v:Int):gotT (srtB l) v=gotT l v:=(gotT_perm h (Jli l).symm v).symm
theorem upsT_keys (a:Int)(t:Tm):∀ l:Bn,(upsT l a t).map (·.1)=if (gotT l a).isSome=true then l.map (·.1) else l.map (·.1)++[a]
 | []=>by simp [upsT,gotT]
 | q::l=>by
  unfold upsT gotT
  by_cases h:a=q.1
  ·rw [if_pos h,if_pos h];simp [h]
  ·rw [if_neg h,if_neg h,List.map_cons,upsT_keys a t l]
   split <;> simp
theorem NK.ups {l:Bn}(h:NK l)(a:Int)(t:Tm):NK (upsT l a t):=by
 unfold NK
 rw [upsT_keys]
 split
 ·exact h
 ·rename_i hg
  refine List.nodup_append.2 ⟨h,by simp,fun x hx y hy=>?_⟩
  simp only [List.mem_singleton] at hy
  subst hy
  rintro rfl
  obtain ⟨⟨k,z⟩,hq,rfl⟩:=List.mem_map.1 hx
  exact hg (by rw [(Jeu h).2 hq];rfl)
def goM:Bn→List Tm→List Tm→Option Bn
 | m,[],_=>some m
 | m,_::_,[]=>some m
 | m,t::ts,u::us=>if varB t=false then (if t=u then goM m ts us else none) else if (gotT m t.n).isSome∧(gotT m t.n).getD T0≠u then none else goM (upsT m t.n u) ts us
theorem Jlx:∀ (m:Bn) (ts us:List Tm),(goM m ts us).isSome=Jiw m ts us
 | m,[],_=>by simp [goM,Jiw]
 | _,_::_,[]=>by simp [goM,Jiw]
 | m,t::ts,u::us=>by
  unfold goM Jiw
  split
  ·split
   ·exact Jlx m ts us
   ·rfl
  ·split
   ·rfl
   ·exact Jlx _ ts us
abbrev fitB (p x:At):Prop:=p.name=x.name∧p.args.length=x.args.length∧¬ (varB p.b=true∧x.b.kind=0)
def Jcx (p x:At)(s:Bn):Option Bn:=if fitB p x then (goM s (plc p) (plc x)).map srtB else none
theorem Jnj:∀ {ts us:List Tm} {m m':Bn},NK m→ts.length=us.length→goM m ts us=some m' →
  NK m'∧(∀ v z,gotT m v=some z→gotT m' v=some z)∧(∀ v,(gotT m' v).isSome=true↔(gotT m v).isSome=true∨∃ t∈ts,varB t=true∧t.n=v)∧ts.map (becD m')=us
 | [],[],m,m',hk,_,h=>by
  simp only [goM,Option.some.injEq] at h
  subst h
  exact ⟨hk,fun _ _ h=>h,fun v=>by simp,rfl⟩
 | [],_::_,_,_,_,hl,_=>by simp at hl
 | _::_,[],_,_,_,hl,_=>by simp at hl
 | t::ts,u::us,m,m',hk,hl,h=>by
  have hl2:ts.length=us.length:=by simpa using hl
  rw [goM] at h
  by_cases hv:varB t=true
  ·rw [if_neg (by rw [hv];simp)] at h
   split at h
   ·cases h
   ·rename_i hc
    obtain ⟨h1,h2,h3,h4⟩:=Jnj (hk.ups _ _) hl2 h
    have hu:gotT m' t.n=some u:=h2 _ _ (by rw [Jkj,if_pos rfl])
    refine ⟨h1,fun v z hz=>h2 v z ?_,fun v=>?_,?_⟩
    ·rw [Jkj]
     by_cases e:v=t.n
     ·rw [if_pos e]
      rw [e] at hz
      have:¬ (z≠u):=fun hne=>hc ⟨by rw [hz];rfl,by rw [hz];exact hne⟩
      rw [Classical.not_not.1 this]
     ·rw [if_neg e];exact hz
    ·rw [h3,Jkj]
     by_cases e:v=t.n
     ·rw [if_pos e]
      exact ⟨fun _=>Or.inr ⟨t,by simp,hv,e.symm⟩,fun _=>Or.inl rfl⟩
     ·rw [if_neg e]
      constructor
      ·rintro (hh | ⟨x,hx,hh⟩)
       ·exact Or.inl hh
       ·exact Or.inr ⟨x,List.mem_cons_of_mem _ hx,hh⟩
      ·rintro (hh | ⟨x,hx,hh,he⟩)
       ·exact Or.inl hh
       ·rcases List.mem_cons.1 hx with rfl | hx
        ·exact absurd he.symm e
        ·exact Or.inr ⟨x,hx,hh,he⟩
    ·rw [List.map_cons,h4,List.cons.injEq]
     refine ⟨?_,rfl⟩
     unfold becD;rw [if_pos hv,hu];rfl
  ·have hv2:varB t=false:=by simpa using hv
   rw [if_pos hv2] at h
   split at h
   ·rename_i htu
    obtain ⟨h1,h2,h3,h4⟩:=Jnj hk hl2 h
    refine ⟨h1,h2,fun v=>?_,?_⟩
    ·rw [h3]
     constructor
     ·rintro (hh | ⟨x,hx,hh⟩)
      ·exact Or.inl hh
      ·exact Or.inr ⟨x,List.mem_cons_of_mem _ hx,hh⟩
     ·rintro (hh | ⟨x,hx,hh,he⟩)
      ·exact Or.inl hh
      ·rcases List.mem_cons.1 hx with rfl | hx
       ·exact absurd hh hv
       ·exact Or.inr ⟨x,hx,hh,he⟩
    ·rw [List.map_cons,h4,List.cons.injEq]
     refine ⟨?_,rfl⟩
     unfold becD;rw [if_neg hv,htu]
   ·cases h
theorem Joq:∀ {ts us:List Tm} {m s:Bn},ts.length=us.length→(∀ v z,gotT m v=some z→gotT s v=some z)→(∀ t∈ts,varB t=true→(gotT s t.n).isSome=true)→ts.map (becD s)=us→∃ m',goM m ts us=some m'
 | [],_,m,s,_,_,_,_=>⟨m,rfl⟩
 | _::_,[],_,_,hl,_,_,_=>by simp at hl
 | t::ts,u::us,m,s,hl,hm,hd,h=>by
  have hl2:ts.length=us.length:=by simpa using hl
  rw [List.map_cons,List.cons.injEq] at h
  have hd2:∀ t∈ts,varB t=true→(gotT s t.n).isSome=true:=fun x hx=>hd x (List.mem_cons_of_mem _ hx)
  rw [goM]
  by_cases hv:varB t=true
  ·obtain ⟨z,hz⟩:=Option.isSome_iff_exists.1 (hd t (by simp) hv)
   have hzu:z=u:=by have:=h.1;unfold becD at this;rwa [if_pos hv,hz] at this
   rw [if_neg (by rw [hv];simp),if_neg (by
    rintro ⟨h1,h2⟩
    obtain ⟨y,hy⟩:=Option.isSome_iff_exists.1 h1
    have:=hm _ _ hy
    rw [hz] at this
    simp only [Option.some.injEq] at this
    rw [hy] at h2
    exact h2 (by rw [← this];exact hzu))]
   refine Joq hl2 (fun v y hy=>?_) hd2 h.2
   rw [Jkj] at hy
   split at hy
   ·rename_i e
    rw [e,hz,hzu];exact hy
   ·exact hm v y hy
  ·have hv2:varB t=false:=by simpa using hv
   have:=h.1
   unfold becD at this
   rw [if_neg hv] at this
   rw [if_pos hv2,if_pos this]
   exact Joq hl2 hm hd2 h.2
def Jaq (x:At):List Int:=((plc x).filter varB).map (·.n)
theorem mem_varsOf {x:At}{v:Int}:v∈Jaq x↔∃ t∈plc x,varB t=true∧t.n=v:=by
 unfold Jaq
 simp only [List.mem_map,List.mem_filter]
 exact ⟨fun ⟨t,⟨h1,h2⟩,h3⟩=>⟨t,h1,h2,h3⟩,fun ⟨t,h1,h2,h3⟩=>⟨t,⟨h1,h2⟩,h3⟩⟩
theorem becD_congr {s s':Bn}{t:Tm}(h:varB t=true→gotT s t.n=gotT s' t.n):becD s t=becD s' t:=by
 unfold becD
 split
 ·rename_i hv;rw [h hv]
 ·rfl
theorem Jg0 {s:Bn}{p x:At}(hn:p.name=x.name):appD s p=x↔(plc p).map (becD s)=plc x:=by
 obtain ⟨b,n,vs⟩:=p
 obtain ⟨b2,n2,vs2⟩:=x
 simp only at hn
 subst hn
 simp [appD,plc]
theorem Jgb {p x:At}{s s':Bn}(hs:SB s):Jcx p x s=some s'↔SB s'∧fitB p x∧(∀ v z,gotT s v=some z→gotT s' v=some z)∧(∀ v,(gotT s' v).isSome=true↔(gotT s v).isSome=true∨v∈Jaq p)∧appD s' p=x:=by
 have hl:fitB p x→(plc p).length=(plc x).length:=fun h=>by simp [plc,h.2.1]
 unfold Jcx
 constructor
 ·intro h
  split at h
  ·rename_i hf
   obtain ⟨m',hm,rfl⟩:=Option.map_eq_some_iff.1 h
   obtain ⟨h1,h2,h3,h4⟩:=Jnj hs.nk (hl hf) hm
   refine ⟨Jng h1,hf,fun v z hz=>by rw [Jki h1];exact h2 v z hz,fun v=>by rw [Jki h1,h3,mem_varsOf],?_⟩
   rw [Jg0 hf.1,← h4]
   exact List.map_congr_left fun t _=>becD_congr fun _=>Jki h1 _
  ·cases h
 ·rintro ⟨h0,hf,h1,h2,h3⟩
  rw [if_pos hf]
  rw [Jg0 hf.1] at h3
  obtain ⟨m',hm⟩:=Joq (hl hf) h1 (fun t ht hv=>(h2 _).2 (Or.inr (mem_varsOf.2 ⟨t,ht,hv,rfl⟩))) h3
  obtain ⟨k1,k2,k3,k4⟩:=Jnj hs.nk (hl hf) hm
  rw [hm,Option.map_some,Option.some.injEq]
  refine SB.ext (Jng k1) h0 fun v=>?_
  rw [Jki k1]
  by_cases hv:(gotT s' v).isSome=true
  ·obtain ⟨z,hz⟩:=Option.isSome_iff_exists.1 hv
   rw [hz]
   rcases (h2 v).1 hv with hh | hh
   ·obtain ⟨y,hy⟩:=Option.isSome_iff_exists.1 hh
    rw [k2 _ _ hy,← hz,h1 _ _ hy]
   ·obtain ⟨t,ht,hvt,rfl⟩:=mem_varsOf.1 hh
    obtain ⟨y,hy⟩:=Option.isSome_iff_exists.1 ((k3 t.n).2 (Or.inr ⟨t,ht,hvt,rfl⟩))
    have e:becD m' t=becD s' t:=by
     have e1:(plc p).map (becD m')=(plc p).map (becD s'):=by rw [k4,h3]
     exact (List.map_inj_left.1 e1) t ht
    unfold becD at e
    rw [if_pos hvt,if_pos hvt,hy,hz] at e
    rw [hy]
    exact congrArg some e
  ·have hn:gotT s' v=none:=by simpa using hv
   rw [hn]
   have:¬ (gotT m' v).isSome=true:=fun hh=>hv ((h2 v).2 (by rw [mem_varsOf];exact (k3 v).1 hh))
   simpa using this
structure Ts where
 op:Int
 l:Tm
 r:Tm
 deriving DecidableEq
instance:Inhabited Ts:=⟨⟨0,default,default⟩⟩
structure Cl where
 hd:At
 bd:List At
 ts:List Ts
 deriving DecidableEq
instance:Inhabited Cl:=⟨⟨default,[],[]⟩⟩
def tstB (t:Ts):Bool:=decide (1≤t.op∧t.op≤4) && (Jcr t.l || varB t.l) && (Jcr t.r || varB t.r)
def decB (t:Ts):Bool × Bool:=
 if tstB t=true∧Jcr t.l=true∧Jcr t.r=true then
  (if t.op=1 then decide (cmpT t.l t.r=0) else if t.op=2 then decide (cmpT t.l t.r≠0) else if t.op=3 then decide (cmpT t.l t.r<0) else decide (cmpT t.l t.r≤0),true)
 else (false,false)
def appT (s:Bn)(t:Ts):Ts:=⟨t.op,becD s t.l,becD s t.r⟩
def okT (s:Bn)(t:Ts):Bool:=(decB (appT s t)).1
def varsT (t:Ts):List Int:=([t.l,t.r].filter varB).map (·.n)
def clA (c:Cl)(i:Nat):At:=c.bd.getD i default
def clT (c:Cl)(i:Nat):Ts:=c.ts.getD i default
def Jej (c:Cl)(l:List Nat)(s:Bn):Bool:=l.all fun i=>okT s (clT c i)
def sols (fnd:Nat→At→List At)(c:Cl):List (Nat × List Nat)→Bn→List Bn
 | [],s=>[s]
 | j::js,s=>(fnd j.1 (appD s (clA c j.1))).flatMap fun f=>match Jcx (clA c j.1) f s with
  | none=>[]
  | some s'=>if Jej c j.2 s'=true then sols fnd c js s' else []
def tk (c:Cl):(Int→Prop)→List (Nat × List Nat)→Prop
 | _,[]=>True
 | D,j::js=>(∀ i∈j.2,∀ v∈varsT (clT c i),D v∨v∈Jaq (clA c j.1))∧tk c (fun v=>D v∨v∈Jaq (clA c j.1)) js
def GB (s:Bn):Prop:=∀ v z,gotT s v=some z→varB z=false
abbrev Dm (s:Bn)(v:Int):Prop:=(gotT s v).isSome=true
theorem becD_ext {s s':Bn}(h:∀ v z,gotT s v=some z→gotT s' v=some z){t:Tm}(hd:varB t=true→Dm s t.n):becD s' t=becD s t:=by
 refine becD_congr fun hv=>?_
 obtain ⟨z,hz⟩:=Option.isSome_iff_exists.1 (hd hv)
 rw [h _ _ hz,hz]
theorem appD_ext {s s':Bn}(h:∀ v z,gotT s v=some z→gotT s' v=some z){p:At}(hd:∀ v∈Jaq p,Dm s v):appD s' p=appD s p:=by
 have h1:∀ t∈plc p,becD s' t=becD s t:=fun t ht=>becD_ext h fun hv=>hd _ (mem_varsOf.2 ⟨t,ht,hv,rfl⟩)
 unfold appD
 rw [h1 p.b (by simp [plc]),List.map_congr_left fun t ht=>h1 t (by simp [plc,ht])]
theorem okT_ext {s s':Bn}(h:∀ v z,gotT s v=some z→gotT s' v=some z){t:Ts}(hd:∀ v∈varsT t,Dm s v):okT s' t=okT s t:=by
 have h1:∀ x∈[t.l,t.r],becD s' x=becD s x:=fun x hx=>becD_ext h fun hv=>hd _ (by
  unfold varsT
  exact List.mem_map.2 ⟨x,List.mem_filter.2 ⟨hx,hv⟩,rfl⟩)
 unfold okT appT
 rw [h1 t.l (by simp),h1 t.r (by simp)]
theorem Jkh {c:Cl}{l:List Nat}{s s':Bn}(h:∀ v z,gotT s v=some z→gotT s' v=some z)(hd:∀ i∈l,∀ v∈varsT (clT c i),Dm s v):Jej c l s'=Jej c l s:=by
 unfold Jej
 rw [Bool.eq_iff_iff,List.all_eq_true,List.all_eq_true]
 exact forall_congr' fun i=>forall_congr' fun hi=>by rw [okT_ext h (hd i hi)]
theorem gotT_filter {s:Bn}(hs:NK s)(p:Int→Bool)(v:Int):gotT (s.filter fun q=>p q.1) v=if p v=true then gotT s v else none:=by
 have hn:NK (s.filter fun q=>p q.1):=by unfold NK at hs ⊢;exact List.Nodup.sublist (List.filter_sublist.map _) hs
 cases hg:gotT (s.filter fun q=>p q.1) v with
 | some z=>
  have h1:=(Jeu hn).1 hg
  obtain ⟨h2,h3⟩:=List.mem_filter.1 h1
  rw [if_pos h3,(Jeu hs).2 h2]
 | none=>
  split
  ·rename_i hp
   cases hg2:gotT s v with
   | none=>rfl
   | some z=>rw [(Jeu hn).2 (List.mem_filter.2 ⟨(Jeu hs).1 hg2,hp⟩)] at hg;cases hg
  ·rfl
theorem GB.match {p x:At}{s s':Bn}(hs:SB s)(hg:GB s)(hx:∀ t∈plc x,varB t=false)(h:Jcx p x s=some s'):GB s':=by
 obtain ⟨h1,hf,h2,h3,h4⟩:=(Jgb hs).1 h
 intro v z hz
 rcases (h3 v).1 (by rw [hz];rfl) with hh | hh
 ·obtain ⟨y,hy⟩:=Option.isSome_iff_exists.1 hh
  have:=h2 _ _ hy
  rw [hz] at this
  rw [Option.some.inj this]
  exact hg _ _ hy
 ·obtain ⟨t,ht,hv,rfl⟩:=mem_varsOf.1 hh
  rw [Jg0 hf.1] at h4
  have h5:becD s' t∈plc x:=by rw [← h4];exact List.mem_map.2 ⟨t,ht,rfl⟩
  have h6:becD s' t=z:=by unfold becD;rw [if_pos hv,hz];rfl
  rw [← h6];exact hx _ h5
theorem becD_bec {s s':Bn}(hg:GB s)(h:∀ v z,gotT s v=some z→gotT s' v=some z)(t:Tm):becD s' (becD s t)=becD s' t:=by
 by_cases hv:varB t=true
 ·cases hz:gotT s t.n with
  | none=>rw [show becD s t=t by unfold becD;rw [if_pos hv,hz];rfl]
  | some z=>
   rw [show becD s t=z by unfold becD;rw [if_pos hv,hz];rfl]
   have h1:=hg _ _ hz
   unfold becD
   rw [if_neg (by rw [h1];simp),if_pos hv,h _ _ hz];rfl
 ·rw [show becD s t=t by unfold becD;rw [if_neg hv]]
theorem matchB_pat {p x:At}{s s':Bn}(hs:SB s)(hg:GB s)(h:Jcx p x s=some s'):Jcz (appD s p) x=true:=by
 obtain ⟨h1,hf,h2,h3,h4⟩:=(Jgb hs).1 h
 unfold Jcz
 rw [Bool.and_eq_true,decide_eq_true_eq]
 refine ⟨⟨hf.1,by simp [appD,hf.2.1],fun hh=>hf.2.2 ⟨?_,hh.2⟩⟩,?_⟩
 ·have h5:=hh.1
  by_cases hv:varB p.b=true
  ·exact hv
  ·rw [show (appD s p).b=p.b by show becD s p.b=p.b;unfold becD;rw [if_neg hv]] at h5
   exact absurd h5 hv
 ·rw [← Jlx]
  have hl:(plc (appD s p)).length=(plc x).length:=by simp [plc,appD,hf.2.1]
  have hpl:plc (appD s p)=(plc p).map (becD s):=by simp [plc,appD]
  obtain ⟨m',hm⟩:=Joq (m:=[]) (s:=s') hl (fun v z hz=>by simp [gotT] at hz) (fun t ht hv=>by
   rw [hpl] at ht
   obtain ⟨u,hu,rfl⟩:=List.mem_map.1 ht
   have hu2:becD s u=u:=by
    unfold becD at hv ⊢
    split
    ·rename_i hv2
     rw [if_pos hv2] at hv
     cases hz:gotT s u.n with
     | none=>rfl
     | some z=>rw [hz] at hv;have:=hg _ _ hz;simp only [Option.getD_some] at hv;rw [this] at hv;cases hv
    ·rfl
   rw [hu2] at hv ⊢
   exact (h3 _).2 (Or.inr (mem_varsOf.2 ⟨u,hu,hv,rfl⟩))) (by
   rw [Jg0 hf.1] at h4
   rw [hpl,List.map_map,← h4]
   exact List.map_congr_left fun t _=>becD_bec hg h2 t)
  rw [hm];rfl
structure FndOK (fnd:Nat→At→List At) (FF:Nat→At→Prop):Prop where
 mem:∀ i p x,x∈fnd i p↔FF i x∧Jcz p x=true
 gr:∀ i x,FF i x→∀ t∈plc x,varB t=false
abbrev Jo4 (FF:Nat→At→Prop)(s:Bn)(i:Nat)(a:At):Prop:=FF i (appD s a)∧(varB a.b=true→(becD s a.b).kind≠0)
theorem Jm4 {fnd:Nat→At→List At}{FF:Nat→At→Prop}(hF:FndOK fnd FF){c:Cl}:∀ {J:List (Nat × List Nat)} {s s':Bn},SB s→GB s→tk c (Dm s) J →
  (s'∈sols fnd c J s↔SB s'∧(∀ v z,gotT s v=some z→gotT s' v=some z)∧(∀ v,Dm s' v↔Dm s v∨∃ j∈J,v∈Jaq (clA c j.1))∧∀ j∈J,Jo4 FF s' j.1 (clA c j.1)∧Jej c j.2 s'=true)
 | [],s,s',hs,hg,_=>by
  simp only [sols,List.mem_singleton]
  constructor
  ·rintro rfl
   exact ⟨hs,fun _ _ h=>h,fun v=>by simp,by simp⟩
  ·rintro ⟨h1,h2,h3,_⟩
   refine SB.ext h1 hs fun v=>?_
   cases hz:gotT s v with
   | some z=>exact h2 _ _ hz
   | none=>
    have:=h3 v
    simp only [List.not_mem_nil,false_and,exists_false,or_false] at this
    have h4:¬ Dm s' v:=fun h=>by have h5:(gotT s v).isSome=true:=this.1 h;rw [hz] at h5;cases h5
    simpa using h4
 | j::js,s,s',hs,hg,ht=>by
  obtain ⟨ht1,ht2⟩:=ht
  constructor
  ·intro h
   unfold sols at h
   obtain ⟨f,hf,h⟩:=List.mem_flatMap.1 h
   obtain ⟨hf1,hf2⟩:=(hF.mem _ _ _).1 hf
   cases hm:Jcx (clA c j.1) f s with
   | none=>rw [hm] at h;simp at h
   | some s1=>
    rw [hm] at h
    simp only at h
    split at h
    ·rename_i hJ
     obtain ⟨k1,kf,k2,k3,k4⟩:=(Jgb hs).1 hm
     have ht3:tk c (Dm s1) js:=by
      have e:Dm s1=fun v=>Dm s v∨v∈Jaq (clA c j.1):=funext fun v=>propext (k3 v)
      rw [e];exact ht2
     obtain ⟨i1,i2,i3,i4⟩:=(Jm4 hF k1 (hg.match hs (hF.gr _ _ hf1) hm) ht3).1 h
     refine ⟨i1,fun v z hz=>i2 _ _ (k2 _ _ hz),fun v=>?_,fun q hq=>?_⟩
     ·rw [i3,show Dm s1 v↔_ from k3 v]
      constructor
      ·rintro ((hh | hh) | ⟨q,hq,hh⟩)
       ·exact Or.inl hh
       ·exact Or.inr ⟨j,by simp,hh⟩
       ·exact Or.inr ⟨q,List.mem_cons_of_mem _ hq,hh⟩
      ·rintro (hh | ⟨q,hq,hh⟩)
       ·exact Or.inl (Or.inl hh)
       ·rcases List.mem_cons.1 hq with rfl | hq
        ·exact Or.inl (Or.inr hh)
        ·exact Or.inr ⟨q,hq,hh⟩
     ·rcases List.mem_cons.1 hq with rfl | hq
      ·have e1:appD s' (clA c q.1)=f:=by rw [appD_ext i2 (fun v hv=>(k3 v).2 (Or.inr hv)),k4]
       refine ⟨⟨by rw [e1];exact hf1,fun hv hk=>kf.2.2 ⟨hv,?_⟩⟩,?_⟩
       ·rw [← e1];exact hk
       ·rw [Jkh i2 (fun i hi v hv=>(k3 v).2 (ht1 i hi v hv))];exact hJ
      ·exact i4 q hq
    ·simp at h
  ·rintro ⟨h1,h2,h3,h4⟩
   have hD:∀ v,Dm s' v↔(Dm s v∨v∈Jaq (clA c j.1))∨∃ q∈js,v∈Jaq (clA c q.1):=fun v=>by
    rw [h3]
    constructor
    ·rintro (hh | ⟨q,hq,hh⟩)
     ·exact Or.inl (Or.inl hh)
     ·rcases List.mem_cons.1 hq with rfl | hq
      ·exact Or.inl (Or.inr hh)
      ·exact Or.inr ⟨q,hq,hh⟩
    ·rintro ((hh | hh) | ⟨q,hq,hh⟩)
     ·exact Or.inl hh
     ·exact Or.inr ⟨j,by simp,hh⟩
     ·exact Or.inr ⟨q,List.mem_cons_of_mem _ hq,hh⟩
   let p:Int→Bool:=fun v=>(gotT s v).isSome || decide (v∈Jaq (clA c j.1))
   have hp:∀ v,p v=true↔Dm s v∨v∈Jaq (clA c j.1):=fun v=>by simp [p]
   let s1:Bn:=s'.filter fun q=>p q.1
   have g1:∀ v,gotT s1 v=if p v=true then gotT s' v else none:=gotT_filter h1.nk p
   have k1:SB s1:=List.Pairwise.sublist List.filter_sublist h1
   have k2:∀ v z,gotT s v=some z→gotT s1 v=some z:=fun v z hz=>by rw [g1,if_pos ((hp v).2 (Or.inl (by rw [show Dm s v↔(gotT s v).isSome=true from Iff.rfl,hz];rfl)))];exact h2 _ _ hz
   have k3:∀ v,Dm s1 v↔Dm s v∨v∈Jaq (clA c j.1):=fun v=>by
    rw [← hp]
    show (gotT s1 v).isSome=true↔_
    rw [g1]
    split
    ·rename_i hh
     exact ⟨fun _=>hh,fun _=>(hD v).2 (Or.inl ((hp v).1 hh))⟩
    ·rename_i hh
     exact ⟨fun h=>by simp at h,fun h=>absurd h hh⟩
   have i2:∀ v z,gotT s1 v=some z→gotT s' v=some z:=fun v z hz=>by
    rw [g1] at hz
    split at hz
    ·exact hz
    ·cases hz
   obtain ⟨⟨hb1,hb2⟩,hb3⟩:=h4 j (by simp)
   have e1:appD s' (clA c j.1)=appD s1 (clA c j.1):=appD_ext i2 (fun v hv=>(k3 v).2 (Or.inr hv))
   have hm:Jcx (clA c j.1) (appD s' (clA c j.1)) s=some s1:=(Jgb hs).2 ⟨k1,⟨rfl,by simp [appD],fun hh=>hb2 hh.1 hh.2⟩,k2,k3,e1.symm⟩
   unfold sols
   refine List.mem_flatMap.2 ⟨_,(hF.mem _ _ _).2 ⟨hb1,matchB_pat hs hg hm⟩,?_⟩
   rw [hm]
   simp only
   have ht3:tk c (Dm s1) js:=by
    have e:Dm s1=fun v=>Dm s v∨v∈Jaq (clA c j.1):=funext fun v=>propext (k3 v)
    rw [e];exact ht2
   rw [if_pos (by rw [← Jkh i2 (fun i hi v hv=>(k3 v).2 (ht1 i hi v hv))];exact hb3)]
   refine (Jm4 hF k1 (hg.match hs (hF.gr _ _ hb1) hm) ht3).2 ⟨h1,i2,fun v=>?_,fun q hq=>h4 q (List.mem_cons_of_mem _ hq)⟩
   rw [hD,show Dm s1 v↔_ from k3 v]
def bnG:Nat→List Tm→Bn
 | _,[]=>[]
 | k,t::ts=>((k:Int),t)::bnG (k+1) ts
abbrev bnV (r:List Tm):Bn:=bnG 0 r
theorem bnG_got:∀ (k:Nat) (r:List Tm) (v:Int),gotT (bnG k r) v=if (k:Int)≤v then r[(v - k).toNat]? else none
 | k,[],v=>by simp [bnG,gotT]
 | k,t::ts,v=>by
  unfold bnG gotT
  by_cases h:v=(k:Int)
  ·rw [if_pos h,if_pos (by omega)];simp [h]
  ·rw [if_neg h,bnG_got (k+1) ts v]
   by_cases h2:(k:Int)≤v
   ·rw [if_pos h2,if_pos (by omega)]
    have e:(v - (k:Int)).toNat=(v - ((k+1:Nat):Int)).toNat+1:=by omega
    rw [e,List.getElem?_cons_succ]
   ·rw [if_neg h2,if_neg (by omega)]
theorem bnG_low:∀ (k:Nat) (r:List Tm),∀ q∈bnG k r,(k:Int)≤q.1
 | _,[],q,h=>by simp [bnG] at h
 | k,t::ts,q,h=>by
  rcases List.mem_cons.1 h with rfl | h
  ·exact Int.le_refl _
  ·have:=bnG_low (k+1) ts q h;omega
theorem Jo5:∀ (k:Nat) (r:List Tm),SB (bnG k r)
 | _,[]=>List.Pairwise.nil
 | k,t::ts=>List.pairwise_cons.2 ⟨fun q hq=>by have:=bnG_low (k+1) ts q hq;show (k:Int)<q.1;omega,Jo5 (k+1) ts⟩
theorem Jnn (r:List Tm)(v:Int):gotT (bnV r) v=if 0≤v then r[v.toNat]? else none:=by
 have:=bnG_got 0 r v
 simpa using this
def valsB (n:Nat)(s:Bn):List Tm:=(List.range n).map fun v:Nat=>(gotT s (v:Int)).getD T0
theorem Jfp (n:Nat)(s:Bn):(valsB n s).length=n:=by simp [valsB]
theorem valsB_get {n:Nat}{s:Bn}{v:Nat}(h:v<n):(valsB n s)[v]?=some ((gotT s (v:Int)).getD T0):=by simp [valsB,h]
theorem bnV_row {n:Nat}{s:Bn}(hs:SB s)(hd:∀ v,Dm s v↔0≤v∧v<(n:Int)):bnV (valsB n s)=s:=by
 refine SB.ext (Jo5 _ _) hs fun v=>?_
 rw [Jnn]
 by_cases h:Dm s v
 ·have h1:=(hd v).1 h
  rw [if_pos h1.1,valsB_get (by omega),show ((v.toNat:Nat):Int)=v by omega]
  obtain ⟨z,hz⟩:=Option.isSome_iff_exists.1 h
  rw [hz];rfl
 ·have hz:gotT s v=none:=by simpa using h
  rw [hz]
  split
  ·rename_i h0
   refine List.getElem?_eq_none ?_
   rw [Jfp]
   have:¬ v<(n:Int):=fun h1=>h ((hd v).2 ⟨h0,h1⟩)
   omega
  ·rfl
theorem row_bnV {n:Nat}{r:List Tm}(h:r.length=n):valsB n (bnV r)=r:=by
 refine List.ext_getElem? fun i=>?_
 by_cases hi:i<n
 ·rw [valsB_get hi,Jnn,if_pos (by omega)]
  simp only [Int.toNat_natCast]
  rw [List.getElem?_eq_getElem (by omega)];rfl
 ·rw [List.getElem?_eq_none (by rw [Jfp];omega),List.getElem?_eq_none (by omega)]
theorem bnV_dm {r:List Tm}(v:Int):Dm (bnV r) v↔0≤v∧v<(r.length:Int):=by
 show (gotT (bnV r) v).isSome=true↔_
 rw [Jnn]
 split
 ·by_cases h:v.toNat<r.length
  ·rw [List.getElem?_eq_getElem h]
   exact ⟨fun _=>by omega,fun _=>rfl⟩
  ·rw [List.getElem?_eq_none (by omega)]
   exact ⟨fun h=>by simp at h,fun h=>by omega⟩
 ·exact ⟨fun h=>by simp at h,fun h=>by omega⟩
structure CVn (c:Cl) (n:Nat):Prop where
 body:∀ v,(∃ a∈c.bd,v∈Jaq a)↔0≤v∧v<(n:Int)
 ts:∀ t∈c.ts,∀ v∈varsT t,0≤v∧v<(n:Int)
 hd:∀ v∈Jaq c.hd,0≤v∧v<(n:Int)
structure PlanOK (c:Cl) (ahead:List Nat) (J:List (Nat × List Nat)):Prop where
 atoms:(J.map (·.1)).Perm (List.range c.bd.length)
 ab:∀ i∈ahead,i<c.ts.length
 jb:∀ j∈J,∀ i∈j.2,i<c.ts.length
 all:∀ i,i<c.ts.length→i∈ahead∨∃ j∈J,i∈j.2
 av:∀ i∈ahead,varsT (clT c i)=[]
 jv:tk c (fun _=>False) J
structure Sol (FF:Nat→At→Prop) (c:Cl) (n:Nat) (r:List Tm):Prop where
 len:r.length=n
 ts:∀ t∈c.ts,okT (bnV r) t=true
 bd:∀ i a,c.bd[i]?=some a→Jo4 FF (bnV r) i a
def solsB (fnd:Nat→At→List At)(c:Cl)(ahead:List Nat)(J:List (Nat × List Nat)):List Bn:=if Jej c ahead []=true then sols fnd c J [] else []
theorem Jns {c:Cl}{i:Nat}{a:At}(h:c.bd[i]?=some a):clA c i=a:=by unfold clA;rw [List.getD_eq_getElem?_getD,h];rfl
theorem Jos {c:Cl}{i:Nat}{t:Ts}(h:c.ts[i]?=some t):clT c i=t:=by unfold clT;rw [List.getD_eq_getElem?_getD,h];rfl
theorem PlanOK.at {c:Cl}{ahead:List Nat}{J:List (Nat × List Nat)}(h:PlanOK c ahead J)(i:Nat):(∃ j∈J,j.1=i)↔i<c.bd.length:=by
 have:=h.atoms.mem_iff (a:=i)
 simpa [List.mem_map] using this
theorem rows_sol {fnd:Nat→At→List At}{FF:Nat→At→Prop}(hF:FndOK fnd FF){c:Cl}{n:Nat}(hc:CVn c n){ahead:List Nat}{J:List (Nat × List Nat)}(hp:PlanOK c ahead J)(r:List Tm):
  r∈(solsB fnd c ahead J).map (valsB n)↔Sol FF c n r:=by
 have hgot0:∀ v z,gotT [] v=some z→False:=fun v z h=>by simp [gotT] at h
 have hD0:(Dm [])=fun _=>False:=funext fun v=>propext ⟨fun h=>(by have h2:(none:Option Tm).isSome=true:=h;exact Bool.noConfusion h2),fun h=>h.elim⟩
 have hdom:∀ v,(∃ j∈J,v∈Jaq (clA c j.1))↔0≤v∧v<(n:Int):=fun v=>by
  rw [← hc.body]
  constructor
  ·rintro ⟨j,hj,hv⟩
   have hl:=(hp.at j.1).1 ⟨j,hj,rfl⟩
   rw [Jns (List.getElem?_eq_getElem hl)] at hv
   exact ⟨_,List.getElem_mem hl,hv⟩
  ·rintro ⟨a,ha,hv⟩
   obtain ⟨i,hi⟩:=List.mem_iff_getElem?.1 ha
   obtain ⟨j,hj,rfl⟩:=(hp.at i).2 (List.getElem?_eq_some_iff.1 hi).1
   exact ⟨j,hj,by rw [Jns hi];exact hv⟩
 have hah:∀ s,Jej c ahead s=Jej c ahead []:=fun s=>Jkh (fun v z hz=>(hgot0 v z hz).elim) (fun i hi v hv=>by rw [hp.av i hi] at hv;cases hv)
 have key:∀ s,s∈solsB fnd c ahead J↔SB s∧(∀ v,Dm s v↔0≤v∧v<(n:Int))∧(∀ t∈c.ts,okT s t=true)∧∀ i a,c.bd[i]?=some a→Jo4 FF s i a:=fun s=>by
  have hm:=Jm4 hF (c:=c) (J:=J) (s:=[]) (s':=s) List.Pairwise.nil (fun v z h=>(hgot0 v z h).elim) (by rw [hD0];exact hp.jv)
  have hm2:s∈solsB fnd c ahead J↔Jej c ahead s=true∧s∈sols fnd c J []:=by
   unfold solsB
   rw [hah s]
   split
   ·rename_i h;exact ⟨fun k=>⟨h,k⟩,fun k=>k.2⟩
   ·rename_i h;exact ⟨fun k=>by simp at k,fun k=>absurd k.1 h⟩
  rw [hm2,hm,hD0]
  constructor
  ·rintro ⟨h0,h1,_,h3,h4⟩
   refine ⟨h1,fun v=>by rw [h3,← hdom];simp,fun t ht=>?_,fun i a hi=>?_⟩
   ·obtain ⟨i,hi⟩:=List.mem_iff_getElem?.1 ht
    rcases hp.all i (List.getElem?_eq_some_iff.1 hi).1 with hh | ⟨j,hj,hh⟩
    ·have:=List.all_eq_true.1 h0 i hh
     rwa [Jos hi] at this
    ·have:=List.all_eq_true.1 (h4 j hj).2 i hh
     rwa [Jos hi] at this
   ·obtain ⟨j,hj,rfl⟩:=(hp.at i).2 (List.getElem?_eq_some_iff.1 hi).1
    have:=(h4 j hj).1
    rwa [Jns hi] at this
  ·rintro ⟨h1,h2,h3,h4⟩
   have hall:∀ l:List Nat,(∀ i∈l,i<c.ts.length)→Jej c l s=true:=fun l hl=>List.all_eq_true.2 fun i hi=>by
    have e:=List.getElem?_eq_getElem (hl i hi)
    rw [Jos e]
    exact h3 _ (List.getElem_mem _)
   refine ⟨hall _ hp.ab,h1,fun v z hz=>(hgot0 v z hz).elim,fun v=>by rw [h2,← hdom];simp,fun j hj=>⟨?_,hall _ (hp.jb j hj)⟩⟩
   have hl:=(hp.at j.1).1 ⟨j,hj,rfl⟩
   have e:=List.getElem?_eq_getElem hl
   have:=h4 j.1 _ e
   rwa [Jns e]
 constructor
 ·intro h
  obtain ⟨s,hs,rfl⟩:=List.mem_map.1 h
  obtain ⟨h1,h2,h3,h4⟩:=(key s).1 hs
  have e:=bnV_row h1 h2
  exact ⟨Jfp _ _,by rw [e];exact h3,by rw [e];exact h4⟩
 ·intro h
  refine List.mem_map.2 ⟨bnV r,(key _).2 ⟨Jo5 _ _,fun v=>by rw [bnV_dm,h.len],h.ts,h.bd⟩,row_bnV h.len⟩
theorem tlook_calls (ys:List Bd)(v:Int)(a:Option Addr)(c:Nat)(hl:ys.length≤1099511627776)(w:World)(hN:Jcy w)(hr:RBd w a ys):Calls Tryz.prog 41 #[.slice a ys.length c,.int .i64 v] w fun e w'=>e=.returned (.tuple #[tmV ((gotT (sb ys) v).getD T0),.bool (gotT (sb ys) v).isSome])∧Fr0 w w':=by
 refine Jbl (args:=[.slice a ys.length c,.int .i64 v]) (fun _=>False) Tryz.func41 rfl Tryz.ntmps41 rfl rfl ?_
 refine Csr (WL.alloc T.zr26 rfl ?_)
 intro b4
 refine Za rfl (Nn (Cs (Csr (Zm rfl (Zv (OV.ae rfl T.u54) (Zm rfl (Nn (Cb ?_))))))))
 refine WC.cg (fun (i:Nat)=>[(1,.int .i64 v),(4,.pointer (some ⟨b4,0,none⟩)),(8,.slice a ys.length c),(9,.int .i64 (ys.length:Int)),(10,.int .i64 (i:Int))])
   (fun i w'=>(i≤ys.length∧∀ j z,j<i→ys[j]?=some z→z.v≠v)∧Sat0 w (oQ b4 (tmC T0) 26::[]) w')
   (fun i=>ys.length - i) 0 Y5 (fun w' hw=>⟨⟨by omega,fun j z hj=>by omega⟩,hw⟩) ?_
 intro i
 refine WC.pure (fun hi=>?_)
 obtain ⟨hi,hz⟩:=hi
 refine Csr (Zv (OV.cm rfl rfl) (Nn (Cs ?_)))
 refine Cc rfl (fun c11=>?_) (fun c11=>?_)
 ·refine Ck (Xn (Cs (Cb (Csr ?_))))
  obtain ⟨q1,y,hq1,hy,hym,hc1⟩:=hr.get (i:=i) (by omega)
  refine Zv ((OV.ad (show _=some (Value.slice (some q1) ys.length c) by rw [← hq1];rfl) rfl T.u54 T.z64 (by omega)).cast (u:=.pointer (some (q1.add (i*4)))) (by rw [Int.toNat_natCast])) (Zv (OV.ai (cs:=bdC y) rfl T.u64 rfl T.z64 (fun _ hw j u hj=>hw.keeps _ _ (hc1 j u hj))) (WL.alloc T.zr64 rfl ?_))
  intro b7
  refine WL.ag (vs:=bdC y) rfl rfl rfl T.z64 rfl ?_
  refine Nn (Csr (Zv (OV.f0 0 rfl T.u64 rfl) (Zv (OV.l1 (v:=.int .i64 y.v) rfl T.u3 rfl (.head _) rfl) (Zm rfl (Zv (OV.d0 rfl rfl) (Nn ?_))))))
  refine Cc rfl (fun c17=>?_) (fun c17=>?_)
  ·refine Csr (Zv (OV.f0 1 rfl T.u64 rfl) (Zv (OV.ai (cs:=tmC y.t) rfl T.u26 rfl T.z26 (fun _ hw j v hj=>by rw [Jap];exact Jbo hw (.head _) (o:=1) (cs':=tmC y.t) rfl j v hj)) ?_))
   refine WL.focus perm1 (WL.ag (vs:=tmC y.t) rfl rfl rfl T.z26 rfl ?_)
   refine Za rfl (Nn (WC.az ?_))
   refine Xq (Xr (Xr (Xq (Xr ?_))))
   have hg:=gotT_at hy c17 hz
   exact WX.mm (cs:=tmC y.t) rfl rfl rfl rfl T.u26 rfl T.z26 (fun w' hw j v hj=>Ja0 hw (.head _) j v hj) (fun w' hw=>⟨by rw [hg];rfl,hw.fr⟩)
  refine Ck (Xb (Xn (Cr (Zv (OV.bi (j:=1) rfl rfl (by omega)) (Zm rfl (Nl ?_))))))
  exact WX.bg (i+1) Y5 (fun w' hw=>⟨⟨by omega,fun j z hj hjz=>by
   rcases Nat.lt_or_ge j i with h | h
   ·exact hz j z h hjz
   ·rw [show j=i by omega,hy] at hjz
    rw [← Option.some.inj hjz];exact c17⟩,hw.drop⟩) (by show ys.length - (i+1)<ys.length - i;omega)
 refine Ce (Xe (Xe (Xh (Xn (Csr (Zv (OV.ai (cs:=tmC T0) rfl T.u26 rfl T.z26 (fun _ hw j v hj=>by rw [Jap,Nat.zero_add];exact hw.keeps _ _ (hN j v hj))) (WL.ag (vs:=tmC T0) rfl rfl rfl T.z26 rfl ?_)))))))
 refine Za rfl (Nn (WC.az ?_))
 have hg:=gotT_no (v:=v) (ys:=ys) (fun j z hjz=>hz j z (by have:=(List.getElem?_eq_some_iff.1 hjz).1;omega) hjz)
 exact WX.mm (cs:=tmC T0) rfl rfl rfl rfl T.u26 rfl T.z26 (fun w' hw j v hj=>Ja0 hw (.head _) j v hj) (fun w' hw=>⟨by rw [hg];rfl,hw.fr⟩)
theorem Jdv (ys:List Bd)(t:Tm)(a:Option Addr)(c:Nat)(hl:ys.length≤1099511627776)(w:World)(hN:Jcy w)(hr:RBd w a ys):Calls Tryz.prog 58 #[.slice a ys.length c,tmV t] w fun e w'=>e=.returned (tmV (becD (sb ys) t))∧Fr0 w w':=by
 refine Jbl (args:=[.slice a ys.length c,tmV t]) (fun _=>False) Tryz.func58 rfl Tryz.ntmps58 rfl rfl ?_
 refine Csr (WL.box rfl rfl rfl ?_)
 intro b3
 refine WL.alloc T.zr26 rfl ?_
 intro b4
 refine Nn (Cs (Csr (Zv (OV.lN (cs:=tmC t) rfl T.u26 rfl T.z26 (.tail _ (.head _))) (WL.au (v:=.bool (varB t)) (by kernel_rfl) rfl rfl (fun w' hw'=>Jcn t w') ?_))))
 refine Nn ?_
 refine Cc rfl (fun c8=>?_) (fun c8=>?_)
 ·refine Csr (Zm rfl (Zv (OV.f0 1 rfl T.u26 rfl) (Zv (OV.l1 (v:=.int .i64 t.n) rfl T.u3 rfl (.tail _ (.head _)) rfl) (WL.au (v:=.tuple #[tmV ((gotT (sb ys) t.n).getD T0),.bool (gotT (sb ys) t.n).isSome]) (by kernel_rfl) rfl rfl (fun w' hw'=>tlook_calls ys t.n a c hl w' (hN.keeps hw'.keeps) (hr.keeps hw'.keeps)) ?_))))
  refine Zm rfl (Zv (OV.extract rfl rfl) (Zv (OV.extract rfl rfl) (WL.alloc T.zr26 rfl ?_)))
  intro b5
  refine WL.ag (vs:=tmC ((gotT (sb ys) t.n).getD T0)) rfl rfl rfl T.z26 rfl ?_
  refine Za rfl (Nn (Csr (Zm rfl (Nn ?_))))
  refine Cc rfl (fun c16=>?_) (fun c16=>?_)
  ·refine Csr (Zv (OV.lN (cs:=tmC ((gotT (sb ys) t.n).getD T0)) rfl T.u26 rfl T.z26 (.head _)) ?_)
   refine WL.focus perm1 (WL.ag (vs:=tmC ((gotT (sb ys) t.n).getD T0)) rfl rfl rfl T.z26 rfl ?_)
   refine Nn (WC.az ?_)
   refine Xr ?_
   exact WX.retC (cs:=tmC ((gotT (sb ys) t.n).getD T0)) rfl rfl rfl T.u26 rfl T.z26 (fun w' hw j v hj=>Ja0 hw (.head _) j v hj) (fun w' hw=>⟨by unfold becD;rw [if_pos c8];cases hg:gotT (sb ys) t.n with | none=>rw [hg] at c16;cases c16 | some z=>rfl,hw.fr⟩)
  refine Ck (Xn (Csr (Zv (OV.lN (cs:=tmC t) rfl T.u26 rfl T.z26 (.tail _ (.tail _ (.head _)))) ?_)))
  refine WL.focus perm1 (WL.ag (vs:=tmC t) rfl rfl rfl T.z26 rfl ?_)
  refine Nn (WC.az ?_)
  exact WX.retC (cs:=tmC t) rfl rfl rfl T.u26 rfl T.z26 (fun w' hw j v hj=>Ja0 hw (.head _) j v hj) (fun w' hw=>⟨by unfold becD;rw [if_pos c8];cases hg:gotT (sb ys) t.n with | none=>rfl | some z=>rw [hg] at c16;exact (by cases c16),hw.fr⟩)
 refine Ck (Xn (Csr (Zv (OV.lN (cs:=tmC t) rfl T.u26 rfl T.z26 (.tail _ (.head _))) (WL.ag (vs:=tmC t) rfl rfl rfl T.z26 rfl ?_))))
 refine Nn (WC.az ?_)
 exact WX.retC (cs:=tmC t) rfl rfl rfl T.u26 rfl T.z26 (fun w' hw j v hj=>Ja0 hw (.head _) j v hj) (fun w' hw=>⟨by unfold becD;rw [if_neg (by simpa using c8)],hw.fr⟩)
set_option maxHeartbeats 1000000 in
theorem tapply_calls (ys:List Bd)(x:At)(a1 a2:Option Addr)(c1 c2:Nat)(hl:ys.length≤1099511627776)(hx:x.args.length≤1048576)(w:World)(hN:Jcy w)(hr1:RBd w a1 ys)(hr2:RT w a2 x.args):Calls Tryz.prog 119 #[.slice a1 ys.length c1,atV x a2 c2] w fun e w'=>∃ z:Option Addr × Nat,e=.returned (atV (appD (sb ys) x) z.1 z.2)∧Turns [] [rowT z.1 z.2 (appD (sb ys) x).args] w w':=by
 refine Jbl (args:=[.slice a1 ys.length c1,atV x a2 c2]) (fun _=>False) Tryz.func119 rfl Tryz.ntmps119 rfl rfl ?_
 refine Csr (WL.box rfl rfl rfl ?_)
 intro b3
 refine WL.alloc T.zr29 rfl ?_
 intro b4
 refine Nn (Cs (Hd (fun w'=>w'.heap[b3]?=some (.cells (atC x a2 c2).toArray 29 (0,0))) [] (fun _ hw=>hw.it (oQ b3 (atC x a2 c2) 29) (by simp)) (m:=9) rfl ?_))
 refine Hf 0 rfl (OV.aw rfl) (Hf 1 rfl (OV.f0 0 rfl T.u29 rfl) (Ht 2 rfl (OV.ai (cs:=tmC x.b) rfl T.u26 rfl T.z26 (fun _ hw j v hj=>by rw [Jap];exact Jb3 hw (o:=0) (cs':=tmC x.b) rfl j v hj)) (Hf 4 rfl (OV.f0 3 rfl T.u29 rfl) (Ht 5 rfl (OV.ah (v:=.string x.name) rfl T.u9 rfl (fun _ hw=>(Jav hw (o:=3) rfl).1)) ?_))))
 refine Hr (WH.two 3 7 rfl rfl (by kernel_rfl) (listed1:=[true,true,true,true,true,true,false,false,false]) rfl (listed2:=[true,true,true,false,true,true,false,true,false]) rfl (fl1:=false) rfl (fl2:=false) rfl ?_ ?_)
 ·refine WL.au (v:=tmV (becD (sb ys) x.b)) (by kernel_rfl) rfl rfl (fun w' hw'=>Jdv ys x.b a1 c1 hl w' (hN.keeps hw'.keeps) (hr1.keeps hw'.keeps)) ?_
  refine Hc (fun _=>(fun _ hw=>hw.it (oQ b3 (atC x a2 c2) 29) (by simp))) ?_
  refine Hf 6 rfl (OV.ao (xs:=[(0,.tmp 11),(1,.tmp 13)]) (pl:=[(0,3),(3,1),(4,1)]) (cs:=atC ⟨becD (sb ys) x.b,x.name,[]⟩ none 0) T.u29 T.zr29 (by kernel_rfl) rfl (Jal (us:=tmC (becD (sb ys) x.b)) rfl rfl (Nat.le_of_ble_eq_true rfl) (Jal (us:=[_]) rfl rfl (Nat.le_of_ble_eq_true rfl) rfl))) (Ho 7 rfl (fl':=false) rfl ?_)
  refine WL.alloc T.zr29 rfl ?_
  intro b5
  refine Hc (fun _=>(fun _ hw=>hw.it (oQ b3 (atC x a2 c2) 29) (by simp))) ?_
  refine Ho 8 rfl (fl':=false) rfl ?_
  refine WL.ag (vs:=atC ⟨becD (sb ys) x.b,x.name,[]⟩ none 0) rfl rfl rfl T.z29 rfl ?_
  refine Hc (fun _=>(fun _ hw=>hw.it (oQ b3 (atC x a2 c2) 29) (by simp))) ?_
  refine He (Xn (Cs (Csr (Zv (OV.f0 4 rfl T.u29 rfl) (Zv (OV.l1 (v:=.slice a2 x.args.length c2) rfl T.u27 rfl (.tail _ (.tail _ (.head _))) rfl) (Zv (OV.ae rfl T.u27) (Zm rfl (Nn (Cb (WC.weak (S':=Sat0 w (oQ b5 (atC ⟨becD (sb ys) x.b,x.name,[]⟩ none 0) 29::oQ b4 (atC ⟨T0,E0,[]⟩ none 0) 29::oQ b3 (atC x a2 c2) 29::row 26 3 none 0 0 []::[])) (fun w' hw=>(hw.rowNil 26 3).perm (pmP [_,_,_,_] [1,2,3,0])) ?_))))))))))
  refine WC.da (fun (i:Nat) (la:Option Addr) (lc:Nat) (args:List Tm)=>[(0,.slice a1 ys.length c1),(4,.pointer (some ⟨b4,0,none⟩)),(5,.pointer (some ⟨b5,0,none⟩)),(16,.slice a2 x.args.length c2),(17,.int .i64 (x.args.length:Int)),(18,.int .i64 (i:Int))])
    (fun i la lc args w'=>(i≤x.args.length∧args.length=i∧args=(x.args.take i).map (becD (sb ys)))∧Sat0 w (oQ b5 (atC ⟨becD (sb ys) x.b,x.name,args⟩ la lc) 29::oQ b4 (atC ⟨T0,E0,[]⟩ none 0) 29::oQ b3 (atC x a2 c2) 29::rowT la lc args::[]) w')
    (fun i _ _ _=>x.args.length - i) 0 none 0 [] Y6 (fun w' hw=>⟨⟨by omega,rfl,rfl⟩,hw⟩) ?_
  intro i la lc args
  refine WC.pure (fun hi=>?_)
  obtain ⟨hi,hal,hae⟩:=hi
  refine Csr (Zv (OV.cm rfl rfl) (Nn (Cs ?_)))
  refine Cc rfl (fun c19=>?_) (fun c19=>?_)
  ·refine Ck (Xn (Cs (Cb (Csr ?_))))
   obtain ⟨q1,t,hq1,ht,htm,_,hc1⟩:=hr2.get (i:=i) (by omega)
   refine Zv ((OV.ad (show _=some (Value.slice (some q1) x.args.length c2) by rw [← hq1];rfl) rfl T.u27 T.z26 (by omega)).cast (u:=.pointer (some (q1.add (i*3)))) (by rw [Int.toNat_natCast])) (Zv (OV.ai (cs:=tmC t) rfl T.u26 rfl T.z26 (fun _ hw j v hj=>hw.keeps _ _ (hc1 j v hj))) (WL.alloc T.zr26 rfl ?_))
   intro b7
   refine WL.ag (vs:=tmC t) rfl rfl rfl T.z26 rfl ?_
   refine Nn (Hd (fun w'=>w'.heap[b5]?=some (.cells (atC ⟨becD (sb ys) x.b,x.name,args⟩ la lc).toArray 29 (0,0))∧w'.heap[b7]?=some (.cells (tmC t).toArray 26 (0,0))) [8] (fun _ hw=>⟨hw.it (oQ b5 (atC ⟨becD (sb ys) x.b,x.name,args⟩ la lc) 29) (by simp),hw.it (oQ b7 (tmC t) 26) (by simp)⟩) (m:=9) rfl ?_)
   refine Hf 0 rfl (OV.f0 4 rfl T.u29 rfl) (Ht 1 rfl (OV.ah (v:=.slice la args.length lc) rfl T.u27 rfl (fun _ hw=>(Jav hw.1 (o:=4) rfl).1)) (Hf 2 rfl (OV.aw rfl) (Ht 3 rfl (OV.ai (cs:=tmC t) rfl T.u26 rfl T.z26 (fun _ hw j v hj=>by rw [Jap];exact Jb3 hw.2 (o:=0) (cs':=tmC t) rfl j v hj)) (Ho 4 rfl (fl':=false) rfl ?_))))
   refine WL.au (v:=tmV (becD (sb ys) t)) (by kernel_rfl) rfl rfl (fun w' hw'=>Jdv ys t a1 c1 hl w' (hN.keeps hw'.keeps) (hr1.keeps hw'.keeps)) ?_
   refine Hc (fun _=>(fun _ hw=>⟨hw.it (oQ b5 (atC ⟨becD (sb ys) x.b,x.name,args⟩ la lc) 29) (by simp),hw.it (oQ b7 (tmC t) 26) (by simp)⟩)) ?_
   refine Ho 5 rfl (fl':=false) rfl ?_
   refine WL.bh (cs:=tmC (becD (sb ys) t)) T.u27 T.z26 T.zr26 rfl rfl (by omega) (by omega) rfl ?_
   intro b27
   refine Hc (fun _=>(fun _ hw=>⟨hw.it (oQ b5 (atC ⟨becD (sb ys) x.b,x.name,args⟩ la lc) 29) (by simp),hw.it (oQ b7 (tmC t) 26) (by simp)⟩)) ?_
   refine Ho 6 rfl (fl':=false) rfl ?_
   refine WL.focus (ow':=rowT la lc args::oQ b27 (tmC (becD (sb ys) t)) 26::oQ b7 (tmC t) 26::oQ b5 (atC ⟨becD (sb ys) x.b,x.name,args⟩ la lc) 29::oQ b4 (atC ⟨T0,E0,[]⟩ none 0) 29::oQ b3 (atC x a2 c2) 29::[]) (pmP [_,_,_,_,_,_] [5,0,1,2,3,4]) ?_
   refine WL.append (news:=tmC (becD (sb ys) t)) rfl rfl T.apT (fun _ _=>Jcs (.tail _ (.head _)) rfl) (Jf6 _) ⟨by omega,by unfold maxLen;omega⟩ rfl ?_
   intro a28 c28
   refine Hc (fun _=>(fun _ hw=>⟨hw.it (oQ b5 (atC ⟨becD (sb ys) x.b,x.name,args⟩ la lc) 29) (by simp),hw.it (oQ b7 (tmC t) 26) (by simp)⟩)) ?_
   refine Hf 7 rfl (OV.f0 4 rfl T.u29 rfl) (Ho 8 rfl (fl':=true) rfl ?_)
   refine WL.focus perm3 (WL.br (o:=4) rfl rfl rfl T.z27 (by show 4<5;omega) ?_)
   refine Hc (fun h=>by cases h) ?_
   refine He (Xb (Xn (Cr (Zv (OV.bi (j:=1) rfl rfl (by omega)) (Zm rfl (Nl ?_))))))
   have el:args.length+1=(args++[(becD (sb ys) t)]).length:=by simp
   have ef:args.flatMap tmC++tmC (becD (sb ys) t)=(args++[(becD (sb ys) t)]).flatMap tmC:=by simp
   exact WX.ce (i+1) a28 c28 (args++[(becD (sb ys) t)]) Y6 (fun w' hw=>⟨⟨by omega,by simp [hal],by
    rw [List.take_add_one,List.map_append,← hae,ht]
    rfl⟩,by
    rw [el,ef] at hw
    exact hw.pik [[oQ b5 (atC ⟨becD (sb ys) x.b,x.name,(args++[(becD (sb ys) t)])⟩ a28 c28) 29],[rowT a28 c28 (args++[(becD (sb ys) t)])],[oQ b27 (tmC (becD (sb ys) t)) 26],[oQ b7 (tmC t) 26],[oQ b4 (atC ⟨T0,E0,[]⟩ none 0) 29],[oQ b3 (atC x a2 c2) 29]] [0,4,5,1] 6⟩) (by show x.args.length - (i+1)<x.args.length - i;omega)
  refine Ce (Xe (Xe (Xh (Xn (Csr (Zv (OV.lN (cs:=atC ⟨becD (sb ys) x.b,x.name,args⟩ la lc) rfl T.u29 rfl T.z29 (.head _)) ?_))))))
  refine WL.focus perm1 (WL.ag (vs:=atC ⟨becD (sb ys) x.b,x.name,args⟩ la lc) rfl rfl rfl T.z29 rfl ?_)
  refine Nn (WC.az ?_)
  rw [List.take_of_length_le (by omega)] at hae
  have hat:appD (sb ys) x=⟨becD (sb ys) x.b,x.name,args⟩:=by rw [hae];rfl
  rw [hat]
  refine WX.retC (cs:=atC ⟨becD (sb ys) x.b,x.name,args⟩ la lc) rfl rfl rfl T.u29 rfl T.z29 (fun w' hw j v hj=>Ja0 hw (.head _) j v hj) (fun w' hw=>⟨(la,lc),rfl,?_⟩)
  exact (hw.pik [[oQ b4 (atC ⟨becD (sb ys) x.b,x.name,args⟩ la lc) 29],[oQ b5 (atC ⟨becD (sb ys) x.b,x.name,args⟩ la lc) 29],[oQ b3 (atC x a2 c2) 29],[rowT la lc args]] [3] 4).turned0
 refine WL.alloc T.zr29 rfl ?_
 intro b5
 refine Hc (fun _=>(fun _ hw=>hw.it (oQ b3 (atC x a2 c2) 29) (by simp))) ?_
 refine Ho 3 rfl (fl':=false) rfl ?_
 refine WL.au (v:=tmV (becD (sb ys) x.b)) (by kernel_rfl) rfl rfl (fun w' hw'=>Jdv ys x.b a1 c1 hl w' (hN.keeps hw'.keeps) (hr1.keeps hw'.keeps)) ?_
 refine Hc (fun _=>(fun _ hw=>hw.it (oQ b3 (atC x a2 c2) 29) (by simp))) ?_
 refine Hf 6 rfl (OV.ao (xs:=[(0,.tmp 11),(1,.tmp 13)]) (pl:=[(0,3),(3,1),(4,1)]) (cs:=atC ⟨becD (sb ys) x.b,x.name,[]⟩ none 0) T.u29 T.zr29 (by kernel_rfl) rfl (Jal (us:=tmC (becD (sb ys) x.b)) rfl rfl (Nat.le_of_ble_eq_true rfl) (Jal (us:=[_]) rfl rfl (Nat.le_of_ble_eq_true rfl) rfl))) (Ho 8 rfl (fl':=false) rfl ?_)
 refine WL.ag (vs:=atC ⟨becD (sb ys) x.b,x.name,[]⟩ none 0) rfl rfl rfl T.z29 rfl ?_
 refine Hc (fun _=>(fun _ hw=>hw.it (oQ b3 (atC x a2 c2) 29) (by simp))) ?_
 refine He (Xn (Cs (Csr (Zv (OV.f0 4 rfl T.u29 rfl) (Zv (OV.l1 (v:=.slice a2 x.args.length c2) rfl T.u27 rfl (.tail _ (.tail _ (.head _))) rfl) (Zv (OV.ae rfl T.u27) (Zm rfl (Nn (Cb (WC.weak (S':=Sat0 w (oQ b5 (atC ⟨becD (sb ys) x.b,x.name,[]⟩ none 0) 29::oQ b4 (atC ⟨T0,E0,[]⟩ none 0) 29::oQ b3 (atC x a2 c2) 29::row 26 3 none 0 0 []::[])) (fun w' hw=>(hw.rowNil 26 3).perm (pmP [_,_,_,_] [1,2,3,0])) ?_))))))))))
 refine WC.da (fun (i:Nat) (la:Option Addr) (lc:Nat) (args:List Tm)=>[(0,.slice a1 ys.length c1),(4,.pointer (some ⟨b4,0,none⟩)),(5,.pointer (some ⟨b5,0,none⟩)),(16,.slice a2 x.args.length c2),(17,.int .i64 (x.args.length:Int)),(18,.int .i64 (i:Int))])
   (fun i la lc args w'=>(i≤x.args.length∧args.length=i∧args=(x.args.take i).map (becD (sb ys)))∧Sat0 w (oQ b5 (atC ⟨becD (sb ys) x.b,x.name,args⟩ la lc) 29::oQ b4 (atC ⟨T0,E0,[]⟩ none 0) 29::oQ b3 (atC x a2 c2) 29::rowT la lc args::[]) w')
   (fun i _ _ _=>x.args.length - i) 0 none 0 [] Y6 (fun w' hw=>⟨⟨by omega,rfl,rfl⟩,hw⟩) ?_
 intro i la lc args
 refine WC.pure (fun hi=>?_)
 obtain ⟨hi,hal,hae⟩:=hi
 refine Csr (Zv (OV.cm rfl rfl) (Nn (Cs ?_)))
 refine Cc rfl (fun c19=>?_) (fun c19=>?_)
 ·refine Ck (Xn (Cs (Cb (Csr ?_))))
  obtain ⟨q1,t,hq1,ht,htm,_,hc1⟩:=hr2.get (i:=i) (by omega)
  refine Zv ((OV.ad (show _=some (Value.slice (some q1) x.args.length c2) by rw [← hq1];rfl) rfl T.u27 T.z26 (by omega)).cast (u:=.pointer (some (q1.add (i*3)))) (by rw [Int.toNat_natCast])) (Zv (OV.ai (cs:=tmC t) rfl T.u26 rfl T.z26 (fun _ hw j v hj=>hw.keeps _ _ (hc1 j v hj))) (WL.alloc T.zr26 rfl ?_))
  intro b7
  refine WL.ag (vs:=tmC t) rfl rfl rfl T.z26 rfl ?_
  refine Nn (Hd (fun w'=>w'.heap[b5]?=some (.cells (atC ⟨becD (sb ys) x.b,x.name,args⟩ la lc).toArray 29 (0,0))∧w'.heap[b7]?=some (.cells (tmC t).toArray 26 (0,0))) [8] (fun _ hw=>⟨hw.it (oQ b5 (atC ⟨becD (sb ys) x.b,x.name,args⟩ la lc) 29) (by simp),hw.it (oQ b7 (tmC t) 26) (by simp)⟩) (m:=9) rfl ?_)
  refine Hf 0 rfl (OV.f0 4 rfl T.u29 rfl) (Ht 1 rfl (OV.ah (v:=.slice la args.length lc) rfl T.u27 rfl (fun _ hw=>(Jav hw.1 (o:=4) rfl).1)) (Hf 2 rfl (OV.aw rfl) (Ht 3 rfl (OV.ai (cs:=tmC t) rfl T.u26 rfl T.z26 (fun _ hw j v hj=>by rw [Jap];exact Jb3 hw.2 (o:=0) (cs':=tmC t) rfl j v hj)) (Ho 4 rfl (fl':=false) rfl ?_))))
  refine WL.au (v:=tmV (becD (sb ys) t)) (by kernel_rfl) rfl rfl (fun w' hw'=>Jdv ys t a1 c1 hl w' (hN.keeps hw'.keeps) (hr1.keeps hw'.keeps)) ?_
  refine Hc (fun _=>(fun _ hw=>⟨hw.it (oQ b5 (atC ⟨becD (sb ys) x.b,x.name,args⟩ la lc) 29) (by simp),hw.it (oQ b7 (tmC t) 26) (by simp)⟩)) ?_
  refine Ho 5 rfl (fl':=false) rfl ?_
  refine WL.bh (cs:=tmC (becD (sb ys) t)) T.u27 T.z26 T.zr26 rfl rfl (by omega) (by omega) rfl ?_
  intro b27
  refine Hc (fun _=>(fun _ hw=>⟨hw.it (oQ b5 (atC ⟨becD (sb ys) x.b,x.name,args⟩ la lc) 29) (by simp),hw.it (oQ b7 (tmC t) 26) (by simp)⟩)) ?_
  refine Ho 6 rfl (fl':=false) rfl ?_
  refine WL.focus (ow':=rowT la lc args::oQ b27 (tmC (becD (sb ys) t)) 26::oQ b7 (tmC t) 26::oQ b5 (atC ⟨becD (sb ys) x.b,x.name,args⟩ la lc) 29::oQ b4 (atC ⟨T0,E0,[]⟩ none 0) 29::oQ b3 (atC x a2 c2) 29::[]) (pmP [_,_,_,_,_,_] [5,0,1,2,3,4]) ?_
  refine WL.append (news:=tmC (becD (sb ys) t)) rfl rfl T.apT (fun _ _=>Jcs (.tail _ (.head _)) rfl) (Jf6 _) ⟨by omega,by unfold maxLen;omega⟩ rfl ?_
  intro a28 c28
  refine Hc (fun _=>(fun _ hw=>⟨hw.it (oQ b5 (atC ⟨becD (sb ys) x.b,x.name,args⟩ la lc) 29) (by simp),hw.it (oQ b7 (tmC t) 26) (by simp)⟩)) ?_
  refine Hf 7 rfl (OV.f0 4 rfl T.u29 rfl) (Ho 8 rfl (fl':=true) rfl ?_)
  refine WL.focus perm3 (WL.br (o:=4) rfl rfl rfl T.z27 (by show 4<5;omega) ?_)
  refine Hc (fun h=>by cases h) ?_
  refine He (Xb (Xn (Cr (Zv (OV.bi (j:=1) rfl rfl (by omega)) (Zm rfl (Nl ?_))))))
  have el:args.length+1=(args++[(becD (sb ys) t)]).length:=by simp
  have ef:args.flatMap tmC++tmC (becD (sb ys) t)=(args++[(becD (sb ys) t)]).flatMap tmC:=by simp
  exact WX.ce (i+1) a28 c28 (args++[(becD (sb ys) t)]) Y6 (fun w' hw=>⟨⟨by omega,by simp [hal],by
   rw [List.take_add_one,List.map_append,← hae,ht]
   rfl⟩,by
   rw [el,ef] at hw
   exact hw.pik [[oQ b5 (atC ⟨becD (sb ys) x.b,x.name,(args++[(becD (sb ys) t)])⟩ a28 c28) 29],[rowT a28 c28 (args++[(becD (sb ys) t)])],[oQ b27 (tmC (becD (sb ys) t)) 26],[oQ b7 (tmC t) 26],[oQ b4 (atC ⟨T0,E0,[]⟩ none 0) 29],[oQ b3 (atC x a2 c2) 29]] [0,4,5,1] 6⟩) (by show x.args.length - (i+1)<x.args.length - i;omega)
 refine Ce (Xe (Xe (Xh (Xn (Csr (Zv (OV.lN (cs:=atC ⟨becD (sb ys) x.b,x.name,args⟩ la lc) rfl T.u29 rfl T.z29 (.head _)) ?_))))))
 refine WL.focus perm1 (WL.ag (vs:=atC ⟨becD (sb ys) x.b,x.name,args⟩ la lc) rfl rfl rfl T.z29 rfl ?_)
 refine Nn (WC.az ?_)
 rw [List.take_of_length_le (by omega)] at hae
 have hat:appD (sb ys) x=⟨becD (sb ys) x.b,x.name,args⟩:=by rw [hae];rfl
 rw [hat]
 refine WX.retC (cs:=atC ⟨becD (sb ys) x.b,x.name,args⟩ la lc) rfl rfl rfl T.u29 rfl T.z29 (fun w' hw j v hj=>Ja0 hw (.head _) j v hj) (fun w' hw=>⟨(la,lc),rfl,?_⟩)
 exact (hw.pik [[oQ b4 (atC ⟨becD (sb ys) x.b,x.name,args⟩ la lc) 29],[oQ b5 (atC ⟨becD (sb ys) x.b,x.name,args⟩ la lc) 29],[oQ b3 (atC x a2 c2) 29],[rowT la lc args]] [3] 4).turned0
def tsC (t:Ts):List Value:=.int .i64 t.op::(tmC t.l++tmC t.r)
abbrev tsV (t:Ts):Value:=.agg (tsC t).toArray
theorem tsC_len (t:Ts):(tsC t).length=7:=rfl
theorem Jn0 (t:Ts):∀ v∈tsC t,v.oneCell'=true:=by simp [tsC,tmC,Value.oneCell']
theorem checkTest_calls (t:Ts)(w:World):Calls Tryz.prog 56 #[tsV t] w fun e w'=>e=.returned (.int .i64 (if tstB t=true then 0 else 32))∧Fr0 w w':=by
 refine Jbl (args:=[tsV t]) (fun _=>False) Tryz.func56 rfl Tryz.ntmps56 rfl rfl ?_
 refine Csr (WL.box rfl rfl rfl ?_)
 intro b1
 refine Za rfl (Nn (Cs (Csr (Zv (OV.f0 0 rfl T.u61 rfl) (Zv (OV.l1 (v:=.int .i64 t.op) rfl T.u3 rfl (.head _) rfl) (Zv (OV.cm rfl rfl) (Zm rfl ?_)))))))
 refine Zp (t:=6) rfl (fun g6=>?_) (fun g6=>?_)
 ·refine Zs rfl rfl rfl (Zs rfl rfl rfl (Zs rfl rfl rfl (Zv (OV.am rfl rfl) (Zm rfl (Zs rfl rfl rfl (Zs rfl rfl rfl (Zs rfl rfl rfl (Zs rfl rfl rfl (Zs rfl rfl rfl (Zu rfl rfl (Zu rfl rfl (Zu rfl rfl (Zu rfl rfl (Zs rfl rfl rfl (Zv (OV.am rfl rfl) (Zm rfl (Zs rfl rfl rfl (Zs rfl rfl rfl (Zs rfl rfl rfl (Zs rfl rfl rfl (Zs rfl rfl rfl (Zu rfl rfl (Zu rfl rfl (Zu rfl rfl (Zu rfl rfl (Zs rfl rfl rfl (Zv (OV.am rfl rfl) (Nn (WC.cj rfl ?_)))))))))))))))))))))))))))))
  refine Csr (Za rfl (Nn (WC.az ?_)))
  refine Xr ?_
  exact WX.ret1 rfl rfl rfl (fun w' hw=>⟨by clear hw;simp_all [tstB] <;> omega,hw.fr⟩)
 refine Zg rfl rfl rfl (Zv (OV.f0 0 rfl T.u61 rfl) (Zg rfl rfl rfl (Zv (OV.l1 (v:=.int .i64 t.op) rfl T.u3 rfl (.head _) rfl) (Zg rfl rfl rfl (Zv (OV.k7 rfl rfl) (Zv (OV.aj rfl rfl) (Zm rfl ?_)))))))
 refine Zp (t:=11) rfl (fun g11=>?_) (fun g11=>?_)
 ·refine Zs rfl rfl rfl (Zs rfl rfl rfl (Zs rfl rfl rfl (Zs rfl rfl rfl (Zs rfl rfl rfl (Zu rfl rfl (Zu rfl rfl (Zu rfl rfl (Zu rfl rfl (Zs rfl rfl rfl (Zv (OV.am rfl rfl) (Zm rfl (Zs rfl rfl rfl (Zs rfl rfl rfl (Zs rfl rfl rfl (Zs rfl rfl rfl (Zs rfl rfl rfl (Zu rfl rfl (Zu rfl rfl (Zu rfl rfl (Zu rfl rfl (Zs rfl rfl rfl (Zv (OV.am rfl rfl) (Nn (WC.cj rfl ?_))))))))))))))))))))))))
  refine Csr (Za rfl (Nn (WC.az ?_)))
  refine Xr ?_
  exact WX.ret1 rfl rfl rfl (fun w' hw=>⟨by clear hw;simp_all [tstB] <;> omega,hw.fr⟩)
 refine Zg rfl rfl rfl (Zv (OV.f0 1 rfl T.u61 rfl) (Zg rfl rfl rfl (Zv (OV.ai (cs:=tmC t.l) rfl T.u26 rfl T.z26 (fun _ hw j v hj=>by rw [Jap];exact Jbo hw (.head _) (o:=1) (cs':=tmC t.l) rfl j v hj)) (Zg rfl rfl rfl (WL.au (v:=.bool (Jcr t.l)) (by kernel_rfl) rfl rfl (fun w' hw'=>Jdx t.l w') ?_)))))
 refine Zg rfl rfl rfl (Zv (OV.not rfl) (Zg rfl rfl rfl (Zm rfl ?_)))
 refine Zp (t:=16) rfl (fun g16=>?_) (fun g16=>?_)
 ·refine Zg rfl rfl rfl (Zv (OV.f0 1 rfl T.u61 rfl) (Zg rfl rfl rfl (Zv (OV.ai (cs:=tmC t.l) rfl T.u26 rfl T.z26 (fun _ hw j v hj=>by rw [Jap];exact Jbo hw (.head _) (o:=1) (cs':=tmC t.l) rfl j v hj)) (Zg rfl rfl rfl (WL.au (v:=.bool (varB t.l)) (by kernel_rfl) rfl rfl (fun w' hw'=>Jcn t.l w') ?_)))))
  refine Zg rfl rfl rfl (Zv (OV.not rfl) (Zg rfl rfl rfl (Zv (OV.am rfl rfl) (Zv (OV.aj rfl rfl) (Zm rfl ?_)))))
  refine Zp (t:=23) rfl (fun g23=>?_) (fun g23=>?_)
  ·refine Zs rfl rfl rfl (Zs rfl rfl rfl (Zs rfl rfl rfl (Zs rfl rfl rfl (Zs rfl rfl rfl (Zu rfl rfl (Zu rfl rfl (Zu rfl rfl (Zu rfl rfl (Zs rfl rfl rfl (Zv (OV.am rfl rfl) (Nn (WC.cj rfl ?_))))))))))))
   refine Csr (Za rfl (Nn (WC.az ?_)))
   refine Xr ?_
   exact WX.ret1 rfl rfl rfl (fun w' hw=>⟨by clear hw;simp_all [tstB] <;> omega,hw.fr⟩)
  refine Zg rfl rfl rfl (Zv (OV.f0 4 rfl T.u61 rfl) (Zg rfl rfl rfl (Zv (OV.ai (cs:=tmC t.r) rfl T.u26 rfl T.z26 (fun _ hw j v hj=>by rw [Jap];exact Jbo hw (.head _) (o:=4) (cs':=tmC t.r) rfl j v hj)) (Zg rfl rfl rfl (WL.au (v:=.bool (Jcr t.r)) (by kernel_rfl) rfl rfl (fun w' hw'=>Jdx t.r w') ?_)))))
  refine Zg rfl rfl rfl (Zv (OV.not rfl) (Zg rfl rfl rfl (Zm rfl ?_)))
  refine Zp (t:=28) rfl (fun g28=>?_) (fun g28=>?_)
  ·refine Zg rfl rfl rfl (Zv (OV.f0 4 rfl T.u61 rfl) (Zg rfl rfl rfl (Zv (OV.ai (cs:=tmC t.r) rfl T.u26 rfl T.z26 (fun _ hw j v hj=>by rw [Jap];exact Jbo hw (.head _) (o:=4) (cs':=tmC t.r) rfl j v hj)) (Zg rfl rfl rfl (WL.au (v:=.bool (varB t.r)) (by kernel_rfl) rfl rfl (fun w' hw'=>Jcn t.r w') ?_)))))
   refine Zg rfl rfl rfl (Zv (OV.not rfl) (Zg rfl rfl rfl (Zv (OV.am rfl rfl) (Zv (OV.aj rfl rfl) (Nn ?_)))))
   refine Cc rfl (fun c34=>?_) (fun c34=>?_)
   ·refine Csr (Za rfl (Nn (WC.az ?_)))
    refine Xr ?_
    exact WX.ret1 rfl rfl rfl (fun w' hw=>⟨by clear hw;simp_all [tstB] <;> omega,hw.fr⟩)
   refine Ck (Xn (Csr (Za rfl (Nn (WC.az ?_)))))
   exact WX.ret1 rfl rfl rfl (fun w' hw=>⟨by clear hw;simp_all [tstB] <;> omega,hw.fr⟩)
  refine Zs rfl rfl rfl (Zs rfl rfl rfl (Zs rfl rfl rfl (Zs rfl rfl rfl (Zg rfl rfl rfl (Zv (OV.aj rfl rfl) (Zv (OV.aj rfl rfl) (Nn (WC.bu rfl ?_))))))))
  refine Ck (Xn (Csr (Za rfl (Nn (WC.az ?_)))))
  exact WX.ret1 rfl rfl rfl (fun w' hw=>⟨by clear hw;simp_all [tstB] <;> omega,hw.fr⟩)
 refine Zs rfl rfl rfl (Zs rfl rfl rfl (Zs rfl rfl rfl (Zs rfl rfl rfl (Zg rfl rfl rfl (Zv (OV.aj rfl rfl) (Zv (OV.aj rfl rfl) (Zm rfl (Zg rfl rfl rfl (Zv (OV.f0 4 rfl T.u61 rfl) (Zg rfl rfl rfl (Zv (OV.ai (cs:=tmC t.r) rfl T.u26 rfl T.z26 (fun _ hw j v hj=>by rw [Jap];exact Jbo hw (.head _) (o:=4) (cs':=tmC t.r) rfl j v hj)) (Zg rfl rfl rfl (WL.au (v:=.bool (Jcr t.r)) (by kernel_rfl) rfl rfl (fun w' hw'=>Jdx t.r w') ?_)))))))))))))
 refine Zg rfl rfl rfl (Zv (OV.not rfl) (Zg rfl rfl rfl (Zm rfl ?_)))
 refine Zp (t:=28) rfl (fun g28=>?_) (fun g28=>?_)
 ·refine Zg rfl rfl rfl (Zv (OV.f0 4 rfl T.u61 rfl) (Zg rfl rfl rfl (Zv (OV.ai (cs:=tmC t.r) rfl T.u26 rfl T.z26 (fun _ hw j v hj=>by rw [Jap];exact Jbo hw (.head _) (o:=4) (cs':=tmC t.r) rfl j v hj)) (Zg rfl rfl rfl (WL.au (v:=.bool (varB t.r)) (by kernel_rfl) rfl rfl (fun w' hw'=>Jcn t.r w') ?_)))))
  refine Zg rfl rfl rfl (Zv (OV.not rfl) (Zg rfl rfl rfl (Zv (OV.am rfl rfl) (Zv (OV.aj rfl rfl) (Nn ?_)))))
  refine Cc rfl (fun c34=>?_) (fun c34=>?_)
  ·refine Csr (Za rfl (Nn (WC.az ?_)))
   refine Xr ?_
   exact WX.ret1 rfl rfl rfl (fun w' hw=>⟨by clear hw;simp_all [tstB] <;> omega,hw.fr⟩)
  refine Ck (Xn (Csr (Za rfl (Nn (WC.az ?_)))))
  exact WX.ret1 rfl rfl rfl (fun w' hw=>⟨by clear hw;simp_all [tstB] <;> omega,hw.fr⟩)
 refine Zs rfl rfl rfl (Zs rfl rfl rfl (Zs rfl rfl rfl (Zs rfl rfl rfl (Zg rfl rfl rfl (Zv (OV.aj rfl rfl) (Zv (OV.aj rfl rfl) (Nn (WC.bu rfl ?_))))))))
 refine Ck (Xn (Csr (Za rfl (Nn (WC.az ?_)))))
 exact WX.ret1 rfl rfl rfl (fun w' hw=>⟨by clear hw;simp_all [tstB] <;> omega,hw.fr⟩)
theorem applyTest_calls (ys:List Bd)(t:Ts)(a:Option Addr)(c:Nat)(hl:ys.length≤1099511627776)(w:World)(hN:Jcy w)(hr:RBd w a ys):Calls Tryz.prog 23 #[.slice a ys.length c,tsV t] w fun e w'=>e=.returned (tsV (appT (sb ys) t))∧Fr0 w w':=by
 refine Jbl (args:=[.slice a ys.length c,tsV t]) (fun _=>False) Tryz.func23 rfl Tryz.ntmps23 rfl rfl ?_
 refine Csr (WL.box rfl rfl rfl ?_)
 intro b3
 refine WL.alloc T.zr61 rfl ?_
 intro b4
 refine Nn (Cs (Hd (fun w'=>w'.heap[b3]?=some (.cells (tsC t).toArray 61 (0,0))) [] (fun _ hw=>hw.it (oQ b3 (tsC t) 61) (by simp)) (m:=12) rfl ?_))
 refine Hf 0 rfl (OV.f0 0 rfl T.u61 rfl) (Ht 1 rfl (OV.ah (v:=.int .i64 t.op) rfl T.u3 rfl (fun _ hw=>(Jav hw (o:=0) rfl).1)) (Hf 2 rfl (OV.aw rfl) (Hf 3 rfl (OV.f0 1 rfl T.u61 rfl) (Ht 4 rfl (OV.ai (cs:=tmC t.l) rfl T.u26 rfl T.z26 (fun _ hw j v hj=>by rw [Jap];exact Jb3 hw (o:=1) (cs':=tmC t.l) rfl j v hj)) (Hf 6 rfl (OV.aw rfl) (Hf 7 rfl (OV.f0 4 rfl T.u61 rfl) (Ht 8 rfl (OV.ai (cs:=tmC t.r) rfl T.u26 rfl T.z26 (fun _ hw j v hj=>by rw [Jap];exact Jb3 hw (o:=4) (cs':=tmC t.r) rfl j v hj)) (Ho 5 rfl (fl':=false) rfl ?_))))))))
 refine WL.au (v:=tmV (becD (sb ys) t.l)) (by kernel_rfl) rfl rfl (fun w' hw'=>Jdv ys t.l a c hl w' (hN.keeps hw'.keeps) (hr.keeps hw'.keeps)) ?_
 refine Hc (fun _=>(fun _ hw=>hw.it (oQ b3 (tsC t) 61) (by simp))) ?_
 refine Ho 9 rfl (fl':=false) rfl ?_
 refine WL.au (v:=tmV (becD (sb ys) t.r)) (by kernel_rfl) rfl rfl (fun w' hw'=>Jdv ys t.r a c hl w' (hN.keeps hw'.keeps) (hr.keeps hw'.keeps)) ?_
 refine Hc (fun _=>(fun _ hw=>hw.it (oQ b3 (tsC t) 61) (by simp))) ?_
 refine Hf 10 rfl (OV.ao (xs:=[(0,.tmp 6),(1,.tmp 10),(2,.tmp 14)]) (pl:=[(0,1),(1,3),(4,3)]) (cs:=tsC (appT (sb ys) t)) T.u61 T.zr61 (by kernel_rfl) rfl (Jal (us:=[_]) rfl rfl (Nat.le_of_ble_eq_true rfl) (Jal (us:=tmC (becD (sb ys) t.l)) rfl rfl (Nat.le_of_ble_eq_true rfl) (Jal (us:=tmC (becD (sb ys) t.r)) rfl rfl (Nat.le_of_ble_eq_true rfl) rfl)))) (Ho 11 rfl (fl':=false) rfl ?_)
 refine WL.ag (vs:=tsC (appT (sb ys) t)) rfl rfl rfl T.z61 rfl ?_
 refine Hc (fun _=>(fun _ hw=>hw.it (oQ b3 (tsC t) 61) (by simp))) ?_
 refine He (Xn (WC.az ?_))
 exact WX.retC (cs:=tsC (appT (sb ys) t)) rfl rfl rfl T.u61 rfl T.z61 (fun w' hw j v hj=>Ja0 hw (.head _) j v hj) (fun w' hw=>⟨rfl,hw.fr⟩)
theorem decide_calls (t:Ts)(w:World):Calls Tryz.prog 22 #[tsV t] w fun e w'=>e=.returned (.tuple #[.bool (decB t).1,.bool (decB t).2])∧Fr0 w w':=by
 refine Jbl (args:=[tsV t]) (fun _=>False) Tryz.func22 rfl Tryz.ntmps22 rfl rfl ?_
 refine Csr (WL.box rfl rfl rfl ?_)
 intro b1
 refine Za rfl (Za rfl (Nn (Cs (Csr (Zv (OV.lN (cs:=tsC t) rfl T.u61 rfl T.z61 (.head _)) (WL.au (v:=.int .i64 (if tstB t=true then 0 else 32)) (by kernel_rfl) rfl rfl (fun w' hw'=>checkTest_calls t w') ?_))))))
 refine Zv (OV.ic rfl rfl) (Zm rfl ?_)
 refine Zp (t:=8) rfl (fun g8=>?_) (fun g8=>?_)
 ·refine Zs rfl rfl rfl (Zs rfl rfl rfl (Zs rfl rfl rfl (Zs rfl rfl rfl (Zv (OV.am rfl rfl) (Zm rfl (Zs rfl rfl rfl (Zs rfl rfl rfl (Zs rfl rfl rfl (Zs rfl rfl rfl (Zv (OV.am rfl rfl) (Nn (WC.cj rfl ?_))))))))))))
  refine Csr (Za rfl (Za rfl (Nn (WC.az ?_))))
  refine Xr ?_
  exact WX.ret2 rfl rfl rfl rfl (fun w' hw=>⟨by clear hw;simp_all [decB] <;> omega,hw.fr⟩)
 refine Zg rfl rfl rfl (Zv (OV.f0 1 rfl T.u61 rfl) (Zg rfl rfl rfl (Zv (OV.ai (cs:=tmC t.l) rfl T.u26 rfl T.z26 (fun _ hw j v hj=>by rw [Jap];exact Jbo hw (.head _) (o:=1) (cs':=tmC t.l) rfl j v hj)) (Zg rfl rfl rfl (WL.au (v:=.bool (Jcr t.l)) (by kernel_rfl) rfl rfl (fun w' hw'=>Jdx t.l w') ?_)))))
 refine Zg rfl rfl rfl (Zv (OV.not rfl) (Zv (OV.aj rfl rfl) (Zm rfl ?_)))
 refine Zp (t:=14) rfl (fun g14=>?_) (fun g14=>?_)
 ·refine Zs rfl rfl rfl (Zs rfl rfl rfl (Zs rfl rfl rfl (Zs rfl rfl rfl (Zv (OV.am rfl rfl) (Nn (WC.cj rfl ?_))))))
  refine Csr (Za rfl (Za rfl (Nn (WC.az ?_))))
  refine Xr ?_
  exact WX.ret2 rfl rfl rfl rfl (fun w' hw=>⟨by clear hw;simp_all [decB] <;> omega,hw.fr⟩)
 refine Zg rfl rfl rfl (Zv (OV.f0 4 rfl T.u61 rfl) (Zg rfl rfl rfl (Zv (OV.ai (cs:=tmC t.r) rfl T.u26 rfl T.z26 (fun _ hw j v hj=>by rw [Jap];exact Jbo hw (.head _) (o:=4) (cs':=tmC t.r) rfl j v hj)) (Zg rfl rfl rfl (WL.au (v:=.bool (Jcr t.r)) (by kernel_rfl) rfl rfl (fun w' hw'=>Jdx t.r w') ?_)))))
 refine Zg rfl rfl rfl (Zv (OV.not rfl) (Zv (OV.aj rfl rfl) (Nn ?_)))
 refine Cc rfl (fun c19=>?_) (fun c19=>?_)
 ·refine Csr (Za rfl (Za rfl (Nn (WC.az ?_))))
  refine Xr ?_
  exact WX.ret2 rfl rfl rfl rfl (fun w' hw=>⟨by clear hw;simp_all [decB] <;> omega,hw.fr⟩)
 refine Ck (Xn (Csr (Zv (OV.f0 1 rfl T.u61 rfl) (Zv (OV.ai (cs:=tmC t.l) rfl T.u26 rfl T.z26 (fun _ hw j v hj=>by rw [Jap];exact Jbo hw (.head _) (o:=1) (cs':=tmC t.l) rfl j v hj)) (Zv (OV.f0 4 rfl T.u61 rfl) (Zv (OV.ai (cs:=tmC t.r) rfl T.u26 rfl T.z26 (fun _ hw j v hj=>by rw [Jap];exact Jbo hw (.head _) (o:=4) (cs':=tmC t.r) rfl j v hj)) (WL.au (v:=.int .i64 (cmpT t.l t.r)) (by kernel_rfl) rfl rfl (fun w' hw'=>Ji0 t.l t.r w') ?_)))))))
 refine Za rfl (Nn (Cs (Csr (Zv (OV.f0 0 rfl T.u61 rfl) (Zv (OV.l1 (v:=.int .i64 t.op) rfl T.u3 rfl (.head _) rfl) (Nn (Cb (Csr (Zv (OV.d0 rfl rfl) (Za rfl (Nn ?_)))))))))))
 refine Cc rfl (fun c27=>?_) (fun c27=>?_)
 ·refine Csr (Zm rfl (Zv (OV.d0 rfl rfl) (Za rfl (Za rfl (Nn (WC.az ?_))))))
  refine Xq (Xr ?_)
  exact WX.ret2 rfl rfl rfl rfl (fun w' hw=>⟨by clear hw;simp_all [decB] <;> omega,hw.fr⟩)
 refine Csr (Zv (OV.d0 rfl rfl) (Za rfl (Nn ?_)))
 refine Cc rfl (fun c31=>?_) (fun c31=>?_)
 ·refine Csr (Zm rfl (Zv (OV.ic rfl rfl) (Za rfl (Za rfl (Nn (WC.az ?_))))))
  refine Xq (Xr ?_)
  exact WX.ret2 rfl rfl rfl rfl (fun w' hw=>⟨by clear hw;simp_all [decB] <;> omega,hw.fr⟩)
 refine Csr (Zv (OV.d0 rfl rfl) (Za rfl (Nn ?_)))
 refine Cc rfl (fun c35=>?_) (fun c35=>?_)
 ·refine Csr (Zm rfl (Zv (OV.cm rfl rfl) (Za rfl (Za rfl (Nn (WC.az ?_))))))
  refine Xq (Xr ?_)
  exact WX.ret2 rfl rfl rfl rfl (fun w' hw=>⟨by clear hw;simp_all [decB] <;> omega,hw.fr⟩)
 refine Ck (Xb (Xn (Csr (Zm rfl (Zv (OV.mi rfl rfl) (Za rfl (Za rfl (Nn (WC.az ?_)))))))))
 exact WX.ret2 rfl rfl rfl rfl (fun w' hw=>⟨by clear hw;simp_all [decB] <;> omega,hw.fr⟩)
end Go.Proofs.YtgebaodagaecmaaGreatDoor
