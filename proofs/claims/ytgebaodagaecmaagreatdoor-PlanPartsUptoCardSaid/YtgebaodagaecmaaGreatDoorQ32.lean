/- Contracts of functions of the program: what each returns and leaves in memory. Printed by gen.py and walk.py. -/
import Derived.Test.YtgebaodagaecmaaGreatDoorMg24
set_option maxRecDepth 10000
namespace Go.Proofs.YtgebaodagaecmaaGreatDoor
open Go Go.Hw
set_option linter.unusedSimpArgs false
set_option linter.unusedVariables false
theorem Jgc (ts:List TG)(a:Option Addr)(c:Nat)(htl:ts.length≤1099511627776)(N:Nat)(hN:N≤1099511627776)(hlen:∀ y∈ts,y.l.length=N)(row:List Tm)(ra:Option Addr)(rc:Nat)(hrl:row.length=N)(hin:row∉ts.map TG.l)(w:World)(hr:RTG w a ts)(hrr:RT w ra row):Calls Tryz.prog 14 #[.slice a ts.length c,.slice ra row.length rc] w fun e w'=>e=.returned (.bool false)∧Fr0 w w':=by
 refine Jbl (args:=[.slice a ts.length c,.slice ra row.length rc]) (fun _=>False) Tryz.func14 rfl Tryz.ntmps14 rfl rfl ?_
 refine Csr (Za rfl (Nn (Csr (Za rfl (Nn (Csr (Zm rfl ?_)))))))
 first
 | (refine WL.val (OV.ae rfl T.u39) rfl ?_;trace "ALT Jgc#0 c04edde8 0")
 | (refine WL.val (OV.dc rfl T.u39) rfl ?_;trace "ALT Jgc#0 c04edde8 1")
 refine Za rfl (Nn (Cs (Cb ?_)))
 refine WC.kx (fun (lo hi:Nat)=>[(0,.slice a ts.length c),(1,.slice ra row.length rc),(5,.int .i64 (lo:Int)),(6,.int .i64 (hi:Int))])
   (fun lo hi w'=>(lo≤hi∧hi≤ts.length)∧Sat0 w ([]) w')
   (fun lo hi=>hi - lo) 0 ts.length Y4 (fun w' hw=>⟨⟨by omega,by omega⟩,hw⟩) ?_
 intro lo hi
 refine WC.pure (fun hi2=>?_)
 obtain ⟨hlo,hhl⟩:=hi2
 refine Cs (Csr (Zm rfl (Zm rfl (Zv (OV.cm rfl rfl) (Nn ?_)))))
 refine Cc rfl (fun c12=>?_) (fun c12=>?_)
 ·refine Ck (Xn (Cb (Csr (Zm rfl (Zm rfl (Zv (OV.bi rfl rfl (by omega)) (Zv (OV.quoN (j:=2) rfl rfl (by omega)) (Za rfl (Nn (Csr (Zm rfl (Zm rfl ?_))))))))))))
  obtain ⟨q,y,hq,hy,hym,hry,hcy⟩:=hr.get (i:=(lo+hi) / 2) (by omega)
  refine Zv ((OV.ad (show _=some (Value.slice (some q) ts.length c) by rw [← hq];rfl) rfl T.u39 T.z27 (by omega)).cast (u:=.pointer (some (q.add ((lo+hi) / 2)))) (by rw [Int.toNat_natCast,Nat.mul_one])) (Zv (OV.ah (v:=tgV y) rfl T.u27 rfl (fun _ hw=>hw.keeps _ _ hcy)) (Zm rfl (WL.c0 (v:=.bool (decide (cmpR y.l row<0))) (vs:=[tgV y,.slice ra row.length rc]) (fun w' hw'=>Jl6 y.l row (by rw [hlen y hym,hrl]) y.a ra y.c rc (by rw [hlen y hym];exact hN) w' (hry.keeps hw'.keeps) (hrr.keeps hw'.keeps)) ?_)))
  refine Nn ?_
  refine Cc rfl (fun c22=>?_) (fun c22=>?_)
  ·refine Cr (Zm rfl (Zv (OV.bi (j:=1) rfl rfl (by omega)) (Za rfl (Nl (Xb ?_)))))
   exact WX.d8 ((lo+hi) / 2+1) hi Y4 (fun w' hw=>⟨⟨by omega,by omega⟩,hw⟩) (by show hi - ((lo+hi) / 2+1)<hi - lo;omega)
  refine Cr (Zm rfl (Za rfl (Nl (Xb ?_))))
  exact WX.d8 lo ((lo+hi) / 2) Y4 (fun w' hw=>⟨⟨by omega,by omega⟩,hw⟩) (by show (lo+hi) / 2 - lo<hi - lo;omega)
 refine Ce (Xe (Xe (Xh (Xn (Csr (Zm rfl (Zm rfl ?_)))))))
 first
 | (refine WL.val (OV.ae rfl T.u39) rfl ?_;trace "ALT Jgc#1 c04edde8 0")
 | (refine WL.val (OV.dc rfl T.u39) rfl ?_;trace "ALT Jgc#1 c04edde8 1")
 refine Zv (OV.cm rfl rfl) (Zm rfl ?_)
 refine Zp (t:=30) rfl (fun g30=>?_) (fun g30=>?_)
 ·refine Zg rfl rfl rfl (Zm rfl (Zg rfl rfl rfl (Zm rfl (Zg rfl rfl rfl ?_))))
  have glt:lo<ts.length:=by simpa using g30
  obtain ⟨q,y,hq,hy,hym,hry,hcy⟩:=hr.get (i:=lo) (by omega)
  refine Zv ((OV.ad (show _=some (Value.slice (some q) ts.length c) by rw [← hq];rfl) rfl T.u39 T.z27 (by omega)).cast (u:=.pointer (some (q.add lo))) (by rw [Int.toNat_natCast,Nat.mul_one])) (Zg rfl rfl rfl (Zv (OV.ah (v:=tgV y) rfl T.u27 rfl (fun _ hw=>hw.keeps _ _ hcy)) (Zg rfl rfl rfl (Zm rfl (Zg rfl rfl rfl (WL.c0 (v:=.bool false) (vs:=[tgV y,.slice ra row.length rc]) (fun w' hw'=>(sameTerms_calls y.l row y.a ra y.c rc (by rw [hlen y hym];exact hN) (by rw [hrl];exact hN) w' (hry.keeps hw'.keeps) (hrr.keeps hw'.keeps)).mono (fun en w'' ⟨h8,h9⟩=>⟨by rw [h8,decide_eq_false (fun e=>hin (List.mem_map.2 ⟨y,hym,e⟩))],h9⟩)) ?_))))))
  refine Zv (OV.am rfl rfl) (Za rfl (Nn (WC.az ?_)))
  exact WX.ret1 rfl rfl rfl (fun w' hw=>⟨rfl,hw.fr⟩)
 refine Zs rfl rfl rfl (Zs rfl rfl rfl (Zs rfl rfl rfl (Zs rfl rfl rfl (Zs rfl rfl rfl (Zs rfl rfl rfl (Zv (OV.aj rfl rfl) (Za rfl (Nn (WC.az ?_)))))))))
 exact WX.ret1 rfl rfl rfl (fun w' hw=>⟨rfl,hw.fr⟩)
def LdOK (F:List (At × Nat))(c:Cl)(n l:Nat)(L:List (List Tm)):Prop:=Str cmpR L∧∀ r,r∈L↔Sol (FFs F (some l)) c n r
def CntOK (F:List (At × Nat))(c:Cl)(n:Nat)(lo:List (List Tm))(lead cnt:Nat):Prop:=∃ Ls:Nat→List (List Tm),(∀ l,l<lead→LdOK F c n l (Ls l))∧cnt=lo.length+((List.range lead).map fun l=>(Ls l).length).sum
theorem CntOK.zero {F:List (At × Nat)}{c:Cl}{n:Nat}{lo:List (List Tm)}:CntOK F c n lo 0 lo.length:=⟨fun _=>[],fun l h=>absurd h (by omega),by simp⟩
theorem CntOK.snoc {F:List (At × Nat)}{c:Cl}{n lead cnt:Nat}{lo L:List (List Tm)}(h:CntOK F c n lo lead cnt)(hL:LdOK F c n lead L):CntOK F c n lo (lead+1) (cnt+L.length):=by
 obtain ⟨Ls,h1,h2⟩:=h
 refine ⟨fun l=>if l=lead then L else Ls l,fun l hl=>?_,?_⟩
 ·by_cases e:l=lead
  ·simp only [e,if_true];exact hL
  ·simp only [e,if_false];exact h1 l (by omega)
 ·rw [List.range_succ,List.map_append,List.sum_append,h2]
  have e:(List.range lead).map (fun l=>(if l=lead then L else Ls l).length)=(List.range lead).map fun l=>(Ls l).length:=List.map_congr_left fun l hl=>by
   have:=List.mem_range.1 hl
   rw [if_neg (by omega)]
  rw [e]
  simp only [List.map_cons,List.map_nil,List.sum_cons,List.sum_nil,if_true]
  omega
theorem Jm3 {O N X:List At}{c:Cl}{n:Nat}(r:List Tm):Sol (FFs (Jcp O [] []) none) c n r↔Sol (fun _ x=>x∈selF (Jcp O N X) 1) c n r:=Sol.congr fun i x=>by
 show x∈selF (Jcp O [] []) 3↔_
 rw [sel_filled,sel_old]
 simp
theorem CntOK.done {O N X:List At}{c:Cl}{n cnt:Nat}{la lo:List (List Tm)}(sa:Str cmpR la)(so:Str cmpR lo)(ma:∀ r,r∈la↔Sol (FFs (Jcp O N X) none) c n r)(mo:∀ r,r∈lo↔Sol (FFs (Jcp O [] []) none) c n r)(h:CntOK (Jcp O N X) c n lo c.bd.length cnt):cnt=la.length:=by
 obtain ⟨Ls,h1,h2⟩:=h
 rw [h2]
 exact parts_count (Jfx O N X) (Str.nodup Jnm sa) (Str.nodup Jnm so) (fun l hl=>Str.nodup Jnm (h1 l hl).1) ma (fun r=>(mo r).trans (Jm3 r)) (fun l hl r=>by rw [Jm6];exact (h1 l hl).2 r)
theorem old_in {O N X:List At}{c:Cl}{n:Nat}{la lo:List (List Tm)}(ma:∀ r,r∈la↔Sol (FFs (Jcp O N X) none) c n r)(mo:∀ r,r∈lo↔Sol (FFs (Jcp O [] []) none) c n r):∀ r∈lo,r∈la:=fun r hr=>
 (ma r).2 (((Jm3 (N:=N) (X:=X) r).1 ((mo r).1 hr)).mono fun i x hx=>((Jfx O N X).u x).2 (Or.inl hx))
theorem lead_in {O N X:List At}{c:Cl}{n l:Nat}{la L:List (List Tm)}(ma:∀ r,r∈la↔Sol (FFs (Jcp O N X) none) c n r)(h:LdOK (Jcp O N X) c n l L):∀ r∈L,r∈la:=fun r hr=>
 (ma r).2 (lead_all (Jfx O N X) (by have:=(h.2 r).1 hr;rw [← Jm6] at this;exact this))
theorem lead_out {O N X:List At}{c:Cl}{n l:Nat}(hl:l<c.bd.length){lo L:List (List Tm)}(mo:∀ r,r∈lo↔Sol (FFs (Jcp O [] []) none) c n r)(h:LdOK (Jcp O N X) c n l L):∀ r∈L,r∉lo:=fun r hr h2=>
 lead_not (Jfx O N X) hl (by have:=(h.2 r).1 hr;rw [← Jm6] at this;exact this) ((Jm3 r).1 ((mo r).1 h2))
theorem most_smallF {n:Nat}(h:n≤8):(3*mostN n) ^ n≤1048576:=by
 have h2:∀ m:Fin 9,(3*mostN m.1) ^ m.1≤1048576:=by decide +kernel
 exact h2 ⟨n,by omega⟩
theorem Jj8 {a n m:Nat}(h:a≤3*m)(h2:(3*m) ^ n≤1048576):a ^ n≤1048576:=Nat.le_trans (Nat.pow_le_pow_left h n) h2
theorem FS.nil:FS [] where
 l:=by simp
 y:=fun y hy=>by cases hy
theorem RA.nil0 (w:World):RA w none []:=⟨fun _=>rfl,fun q h=>(by cases h),fun y hy=>(by cases hy)⟩
set_option maxHeartbeats 4000000 in
theorem Jbj (f:FG)(ho:FS f.o)(hnn:FS f.n)(hx:FS f.x)(g:CG)(hs:∀ y,y=g.hd∨y∈g.bd→y.x.args.length≤1048576∧y.x.name.size≤1099511627776)(hbl:g.bd.length≤1048576)(htl:g.ts.length≤1048576)(w:World)(hN:Jcy w)(hC:Jjg w)(hr:RF w f)(hrg:RC w g):Calls Tryz.prog 3 #[.agg (fgC f).toArray,cgV g] w fun e w'=>e=.returned (.bool true)∧Fr0 w w':=by
 refine Jbl (args:=[.agg (fgC f).toArray,cgV g]) (fun _=>False) Tryz.func3 rfl Tryz.ntmps3 rfl rfl ?_
 refine Csr (WL.box rfl rfl rfl ?_)
 intro b2
 refine WL.box rfl rfl rfl ?_
 intro b3
 refine Za rfl (Nn (Csr (Zv (OV.lN (cs:=cgC g) rfl T.u32 rfl T.z32 (.head _)) (WL.cT (ι:=CG) (vs:=[cgV g]) (vv:=fun q=>cgV q) (pp:=fun q=>q.cl=madeC g.cl) [] (AA:=fun q=>cgA q) rfl (fun w' hw' _=>made_calls g hs hbl htl w' (hrg.keeps hw'.keeps)) ?_))))
 rintro q hq
 have hv:VC q.cl:=by rw [hq];exact madeC_ok _
 have hqb:q.cl.bd.length=q.bd.length:=List.length_map _
 refine WL.alloc T.zr32 rfl ?_
 intro b5
 refine WL.ag (vs:=cgC q) rfl rfl rfl T.z32 rfl ?_
 refine Nn (Cs (WC.weak (S':=Sat w (fun _=>False) (fun b=>b<w.heap.size) w ((oQ b5 (cgC q) 32::(cgA q++[oQ b3 (cgC g) 32,oQ b2 (fgC f) 24]))++[])) (fun w' hw=>by rw [List.append_nil];exact hw) ?_))
 refine WC.snap (fun w1 hw1=>?_)
 rw [List.append_nil] at hw1
 have hrq:RC w1 q:=RC.of_items hw1 (fun i hi=>show i∈oQ b5 (cgC q) 32::(cgA q++[oQ b3 (cgC g) 32,oQ b2 (fgC f) 24]) from .tail _ (List.mem_append_left _ hi))
 have hbq:∀ j v,(cgC q)[j]?=some v→w1.cell? ⟨b5,j,none⟩=some v:=Ja0 hw1 (.head _)
 have hbf:∀ j v,(fgC f)[j]?=some v→w1.cell? ⟨b2,j,none⟩=some v:=Ja0 hw1 (show oQ b2 (fgC f) 24∈_ by simp)
 have hk1:=hw1.keeps
 replace hN:=hN.keeps hk1
 replace hC:=hC.keeps hk1
 replace hr:RF w1 f:=⟨hr.o.keeps hk1,hr.n.keeps hk1,hr.x.keeps hk1⟩
 have hb8:q.bd.length≤8:=by rw [← hqb];exact hv.bl
 have hm60:=most_le hb8
 have hmsm:=most_smallF hb8
 refine Cr ?_
 first
 | (refine WL.val (OV.f0 5 rfl T.u32 rfl) rfl ?_;trace "ALT Jbj#0 75ec517c 0")
 | (refine WL.val (OV.di (off:=5) rfl T.u32 rfl) rfl ?_;trace "ALT Jbj#0 75ec517c 1")
 refine Zv (OV.ah (v:=.slice q.ba q.bd.length q.bc) rfl T.u22 rfl (fun _ hw=>snapK hw _ _ (hbq 5 _ rfl))) ?_
 first
 | (refine WL.val (OV.ae rfl T.u22) rfl ?_;trace "ALT Jbj#1 c04edde8 0")
 | (refine WL.val (OV.dc rfl T.u22) rfl ?_;trace "ALT Jbj#1 c04edde8 1")
 refine WL.au (v:=.int .i64 ((mostN q.bd.length:Nat):Int)) (by kernel_rfl) rfl rfl (fun w' hw'=>most_law q.bd.length hb8 w') ?_
 refine Za rfl (Nn (Cs ?_))
 obtain ⟨n,hn⟩:∃ n,n=mostN q.bd.length:=⟨_,rfl⟩
 rw [← hn] at hmsm ⊢
 have hn30:n≤60:=by omega
 have t1:=Jmu f.o n
 have t2:=Jmu f.n n
 have t3:=Jmu f.x n
 have hn72:=hv.nV72
 refine Cr (Zv (OV.ai (cs:=fgC f) rfl T.u24 rfl T.z24 (fun _ hw j v hj=>by rw [Jap,Nat.zero_add];exact snapK hw _ _ (hbf j v hj))) (Zm rfl (WL.cT (ι:=BaseG) (vs:=[.agg (fgC f).toArray,.int .i64 (n:Int)]) (vv:=fun g'=>ptr g'.p) (pp:=fun g'=>BS g' (0+(f.o.take n).length+(f.n.take n).length+(f.x.take n).length) (Jcp (mfL f.o n) (mfL f.n n) (mfL f.x n))) [] (AA:=fun g'=>baseA g') rfl (fun w' hw' _=>filled_calls f n ho hnn hx w' (hN.keeps (snapK hw')) ⟨hr.o.keeps (snapK hw'),hr.n.keeps (snapK hw'),hr.x.keeps (snapK hw')⟩) ?_)))
 rintro h1 bh1
 obtain ⟨ph1,hph1⟩:∃ p,h1.p=p:=⟨_,rfl⟩
 rw [hph1]
 refine Za rfl (Nn (Csr ?_))
 first
 | (refine WL.val (OV.f0 0 rfl T.u24 rfl) rfl ?_;trace "ALT Jbj#2 182ae830 0")
 | (refine WL.val (OV.di (off:=0) rfl T.u24 rfl) rfl ?_;trace "ALT Jbj#2 182ae830 1")
 refine Zv (OV.ah (v:=.slice f.oa f.o.length f.oc) rfl T.u22 rfl (fun _ hw=>snapK hw _ _ (hbf 0 _ rfl))) (Zv (OV.ao (xs:=[(0,.tmp 30)]) (pl:=[(0,1),(1,1),(2,1)]) (cs:=fgC (⟨f.oa,f.oc,f.o,none,0,[],none,0,[]⟩:FG)) T.u24 T.zr24 (by kernel_rfl) rfl (Jal (us:=[_]) rfl rfl (Nat.le_of_ble_eq_true rfl) rfl)) (Zm rfl (WL.cT (ι:=BaseG) (vs:=[.agg (fgC (⟨f.oa,f.oc,f.o,none,0,[],none,0,[]⟩:FG)).toArray,.int .i64 (n:Int)]) (vv:=fun g'=>ptr g'.p) (pp:=fun g'=>BS g' (0+((⟨f.oa,f.oc,f.o,none,0,[],none,0,[]⟩:FG).o.take n).length+((⟨f.oa,f.oc,f.o,none,0,[],none,0,[]⟩:FG).n.take n).length+((⟨f.oa,f.oc,f.o,none,0,[],none,0,[]⟩:FG).x.take n).length) (Jcp (mfL (⟨f.oa,f.oc,f.o,none,0,[],none,0,[]⟩:FG).o n) (mfL (⟨f.oa,f.oc,f.o,none,0,[],none,0,[]⟩:FG).n n) (mfL (⟨f.oa,f.oc,f.o,none,0,[],none,0,[]⟩:FG).x n))) [] (AA:=fun g'=>baseA g') rfl (fun w' hw' _=>filled_calls (⟨f.oa,f.oc,f.o,none,0,[],none,0,[]⟩:FG) n ho FS.nil FS.nil w' (hN.keeps (snapK hw')) ⟨hr.o.keeps (snapK hw'),RA.nil0 _,RA.nil0 _⟩) ?_)))
 rintro h2 bh2
 obtain ⟨ph2,hph2⟩:∃ p,h2.p=p:=⟨_,rfl⟩
 rw [hph2]
 replace bh2:BS h2 (f.o.take n).length (Jcp (mfL f.o n) [] []):=by
  have e9:mfL ([]:List AG) n=[]:=by unfold mfL;simp
  have h9:=bh2
  dsimp only at h9
  rw [e9] at h9
  simpa only [List.take_nil,List.length_nil,Nat.add_zero,Nat.zero_add] using h9
 refine Za rfl (Nn (Csr (Zv (OV.ai (cs:=cgC q) rfl T.u32 rfl T.z32 (fun _ hw j v hj=>by rw [Jap,Nat.zero_add];exact snapK hw _ _ (hbq j v hj))) (WL.c0 (v:=.int .i64 (nV q.cl:Nat)) (vs:=[cgV q]) (fun w' hw'=>cvars_calls q hv.cs w' (hrq.keeps (snapK hw'))) ?_))))
 refine Za rfl (Nn (Cs (Csr (Zm rfl (Zv ((OV.kz T.u35 rfl rfl).cast (u:=.bool false) rfl) (Zm rfl (WL.known (t:=38) (b:=false) rfl (by rfl) ?_)))))))
 refine Zg rfl rfl rfl (Zm rfl (Zg rfl rfl rfl (Zv ((OV.kz T.u35 rfl rfl).cast (u:=.bool false) rfl) (Zv (OV.aj rfl rfl) (Zm rfl (WL.known (t:=42) (b:=false) rfl (by rfl) ?_))))))
 refine Zg rfl rfl rfl (WL.c0 (v:=.bool true) (vs:=[]) (fun w' hw'=>first_calls w' (hN.keeps (snapK hw')) (hC.keeps (snapK hw'))) ?_)
 refine Zg rfl rfl rfl (Zv (OV.not rfl) (Zv (OV.aj rfl rfl) (Nn (WC.bu (show _=some (Value.bool false) from by rfl) ?_))))
 refine Ck (Xn (Csr (Zm rfl (Zv (OV.ai (cs:=cgC q) rfl T.u32 rfl T.z32 (fun _ hw j v hj=>by rw [Jap,Nat.zero_add];exact snapK hw _ _ (hbq j v hj))) (WL.focus (ow':=baseA h1++(baseA h2++[])) (pmC [baseA h2,baseA h1,[]] [1,0,2]) ?_)))))
 refine WL.cT (ι:=BaseG × Option Addr × Nat × List TG) (vs:=[ptr ph1,cgV q,.int .i64 (-1)]) (vv:=fun z=>.tuple #[.slice z.2.1 z.2.2.2.length z.2.2.1,.int .i64 0]) (pp:=fun z=>(BS z.1 _ (Jcp (mfL f.o n) (mfL f.n n) (mfL f.x n))∧z.1.p=ph1)∧Str cmpR (z.2.2.2.map TG.l)∧(∀ r,r∈z.2.2.2.map TG.l↔Sol (FFs (Jcp (mfL f.o n) (mfL f.n n) (mfL f.x n)) none) q.cl (nV q.cl) r)∧z.2.2.2.length≤1048576) (baseA h1) (AA:=fun z=>baseA z.1++(rowR z.2.1 z.2.2.1 z.2.2.2::z.2.2.2.map tgA)) rfl (fun w' hw' hH=>by
  have h9:=Ji4 h1 _ _ bh1 (by omega) Jec q hv.cs hv none (fun l hl=>by cases hl) (Jj8 (Nat.le_trans bh1.fk (by omega)) hmsm) w1 w' (snapK hw') (snapB hw') hN hC hrq hH
  rw [hph1] at h9
  exact h9) ?_
 rintro ⟨k1,laa,lac,la⟩ ⟨⟨bk1,pk1⟩,sla,ela,zla⟩
 dsimp only at bk1 pk1 sla ela zla
 refine Zm rfl (Zv (OV.extract rfl rfl) (Zv (OV.extract rfl rfl) (Za rfl (Za rfl (Nn (Csr (Zm rfl (Zv (OV.ai (cs:=cgC q) rfl T.u32 rfl T.z32 (fun _ hw j v hj=>by rw [Jap,Nat.zero_add];exact snapK hw _ _ (hbq j v hj))) (WL.focus (ow':=baseA h2++((baseA k1++(rowR laa lac la::la.map tgA))++[])) (pmC [(baseA k1++(rowR laa lac la::la.map tgA)),baseA h2,[]] [1,0,2]) ?_)))))))))
 refine WL.cT (ι:=BaseG × Option Addr × Nat × List TG) (vs:=[ptr ph2,cgV q,.int .i64 (-1)]) (vv:=fun z=>.tuple #[.slice z.2.1 z.2.2.2.length z.2.2.1,.int .i64 0]) (pp:=fun z=>(BS z.1 _ (Jcp (mfL f.o n) [] [])∧z.1.p=ph2)∧Str cmpR (z.2.2.2.map TG.l)∧(∀ r,r∈z.2.2.2.map TG.l↔Sol (FFs (Jcp (mfL f.o n) [] []) none) q.cl (nV q.cl) r)∧z.2.2.2.length≤1048576) (baseA h2) (AA:=fun z=>baseA z.1++(rowR z.2.1 z.2.2.1 z.2.2.2::z.2.2.2.map tgA)) rfl (fun w' hw' hH=>by
  have h9:=Ji4 h2 _ _ bh2 (by omega) Jec q hv.cs hv none (fun l hl=>by cases hl) (Jj8 (Nat.le_trans bh2.fk (by omega)) hmsm) w1 w' (snapK hw') (snapB hw') hN hC hrq hH
  rw [hph2] at h9
  exact h9) ?_
 rintro ⟨k2,loa,loc,lo⟩ ⟨⟨bk2,pk2⟩,slo,elo,zlo⟩
 dsimp only at bk2 pk2 slo elo zlo
 refine Zm rfl (Zv (OV.extract rfl rfl) (Zv (OV.extract rfl rfl) (Za rfl (Za rfl (Nn (Cs (Cs ?_)))))))
 have hlal:∀ y∈la,y.l.length=nV q.cl:=fun y hy=>((ela _).1 (List.mem_map.2 ⟨y,hy,rfl⟩)).len
 have hlak:∀ y∈la,∀ t∈y.l,Jcr t=true:=fun y hy=>Jlj hv (fun i x hx=>by
  obtain ⟨m,hm,_⟩:=Jn6.1 hx
  exact Jec _ hm) ((ela _).1 (List.mem_map.2 ⟨y,hy,rfl⟩))
 have hlas:la.length≤1099511627776:=by omega
 have hlol:∀ y∈lo,y.l.length=nV q.cl:=fun y hy=>((elo _).1 (List.mem_map.2 ⟨y,hy,rfl⟩)).len
 have hlok:∀ y∈lo,∀ t∈y.l,Jcr t=true:=fun y hy=>Jlj hv (fun i x hx=>by
  obtain ⟨m,hm,_⟩:=Jn6.1 hx
  exact Jec _ hm) ((elo _).1 (List.mem_map.2 ⟨y,hy,rfl⟩))
 have hlos:lo.length≤1099511627776:=by omega
 have hol:=old_in ela elo
 refine Cr (Zm rfl (Zv ((OV.ic rfl rfl).cast (u:=.bool false) rfl) (Zm rfl (WL.known (t:=60) (b:=false) rfl (by rfl) ?_))))
 refine Zg rfl rfl rfl (Zm rfl (Zg rfl rfl rfl (Zv ((OV.ic rfl rfl).cast (u:=.bool false) rfl) (Zv (OV.aj rfl rfl) (Zm rfl (WL.known (t:=64) (b:=false) rfl (by rfl) ?_))))))
 refine Zg rfl rfl rfl (Zm rfl (Zg rfl rfl rfl (Zm rfl (Zg rfl rfl rfl (WL.c0 (v:=.bool true) (vs:=[.slice laa la.length lac,.int .i64 (nV q.cl:Nat)]) (fun w' hw'=>Jln la laa lac sla hlas (nV q.cl) (by omega) hlal hlak w' (RTG.of_items (c:=lac) (show Sat w (fun _=>False) (fun b=>b<w1.heap.size∧∀ i∈([]:List Hw.Item),¬ i.D b) w1 (((baseA k2++(rowR loa loc lo::lo.map tgA))++((baseA k1++(rowR laa lac la::la.map tgA))++[]))) w' from hw') (List.mem_append_right _ (List.mem_append_left _ (List.mem_append_right _ (.head _)))) (fun y hy=>List.mem_append_right _ (List.mem_append_left _ (List.mem_append_right _ (.tail _ (List.mem_map.2 ⟨y,hy,rfl⟩))))))) ?_)))))
 refine Zg rfl rfl rfl (Zv (OV.not rfl) (Zv (OV.aj rfl rfl) (Zm rfl (WL.known (t:=70) (b:=false) rfl (by rfl) ?_))))
 refine Zg rfl rfl rfl (Zm rfl (Zg rfl rfl rfl (Zm rfl (Zg rfl rfl rfl (WL.c0 (v:=.bool true) (vs:=[.slice loa lo.length loc,.int .i64 (nV q.cl:Nat)]) (fun w' hw'=>Jln lo loa loc slo hlos (nV q.cl) (by omega) hlol hlok w' (RTG.of_items (c:=loc) (show Sat w (fun _=>False) (fun b=>b<w1.heap.size∧∀ i∈([]:List Hw.Item),¬ i.D b) w1 (((baseA k2++(rowR loa loc lo::lo.map tgA))++((baseA k1++(rowR laa lac la::la.map tgA))++[]))) w' from hw') (List.mem_append_left _ (List.mem_append_right _ (.head _))) (fun y hy=>List.mem_append_left _ (List.mem_append_right _ (.tail _ (List.mem_map.2 ⟨y,hy,rfl⟩)))))) ?_)))))
 refine Zg rfl rfl rfl (Zv (OV.not rfl) (Zv (OV.aj rfl rfl) (Nn (WC.bu (show _=some (Value.bool false) from by rfl) ?_))))
 refine Ck (Xn (Cs ?_))
 refine WC.weak (S':=Sat w (fun _=>False) (fun b=>b<w1.heap.size∧∀ i∈([]:List Hw.Item),¬ i.D b) w1 (baseA k1++((rowR loa loc lo::lo.map tgA)++(rowR laa lac la::la.map tgA)))) (fun w' hw=>by
  rw [List.append_assoc,List.append_assoc,List.append_nil] at hw
  exact hw.pik [baseA k2,(rowR loa loc lo::lo.map tgA),baseA k1,(rowR laa lac la::la.map tgA)] [2,1,3] 4) ?_
 refine Cr (Zm rfl ?_)
 first
 | (refine WL.val (OV.ae rfl T.u39) rfl ?_;trace "ALT Jbj#3 c04edde8 0")
 | (refine WL.val (OV.dc rfl T.u39) rfl ?_;trace "ALT Jbj#3 c04edde8 1")
 refine Za rfl (Nn (Cs (Csr (Za rfl (Nn (Cb ?_))))))
 refine WC.cg (fun (i:Nat)=>[(5,.pointer (some ⟨b5,0,none⟩)),(7,ptr ph1),(9,.int .i64 (nV q.cl:Nat)),(10,.slice laa la.length lac),(12,.slice loa lo.length loc),(14,.int .i64 (lo.length:Int)),(15,.int .i64 (i:Int))])
   (fun i w'=>i≤lo.length∧Sat w (fun _=>False) (fun b=>b<w1.heap.size∧∀ i∈([]:List Hw.Item),¬ i.D b) w1 (baseA k1++((rowR loa loc lo::lo.map tgA)++(rowR laa lac la::la.map tgA))) w')
   (fun i=>lo.length - i) 0 Y7 (fun w' hw=>⟨by omega,hw⟩) ?_
 intro i
 refine WC.pure (fun hi=>?_)
 refine Cs (Csr (Zm rfl (Zm rfl ?_)))
 first
 | (refine WL.val (OV.ae rfl T.u39) rfl ?_;trace "ALT Jbj#4 c04edde8 0")
 | (refine WL.val (OV.dc rfl T.u39) rfl ?_;trace "ALT Jbj#4 c04edde8 1")
 refine Zv (OV.cm rfl rfl) (Nn ?_)
 refine Cc rfl (fun c81=>?_) (fun c81=>?_)
 ·refine Ck (Xn (Cs (Cb (Csr (Zm rfl (Zm rfl (Zm rfl ?_)))))))
  refine WL.jd (fun w' hw'=>((RTG.of_items (c:=loc) (show Sat w (fun _=>False) (fun b=>b<w1.heap.size∧∀ i∈([]:List Hw.Item),¬ i.D b) w1 (baseA k1++((rowR loa loc lo::lo.map tgA)++(rowR laa lac la::la.map tgA))) w' from hw') (List.mem_append_right _ (List.mem_append_left _ (.head _))) (fun y hy=>List.mem_append_right _ (List.mem_append_left _ (.tail _ (List.mem_map.2 ⟨y,hy,rfl⟩))))).get (i:=i) (by omega)).imp (fun q8 h=>h.imp (fun y h2=>(⟨h2.1,h2.2.1,h2.2.2.1⟩:loa=some q8∧lo[i]?=some y∧y∈lo)))) (fun hqq=>?_)
  obtain ⟨q8,y,hq,hy,hym⟩:=hqq
  refine Zv ((OV.ad (show _=some (Value.slice (some q8) lo.length loc) by rw [← hq];rfl) rfl T.u39 T.z27 (by omega)).cast (u:=.pointer (some (q8.add i))) (by rw [Int.toNat_natCast,Nat.mul_one])) (Zv (OV.ah (v:=tgV y) rfl T.u27 rfl (fun w' hw'=>(RTG.of_items (c:=loc) (show Sat w (fun _=>False) (fun b=>b<w1.heap.size∧∀ i∈([]:List Hw.Item),¬ i.D b) w1 (baseA k1++((rowR loa loc lo::lo.map tgA)++(rowR laa lac la::la.map tgA))) w' from hw') (List.mem_append_right _ (List.mem_append_left _ (.head _))) (fun y hy=>List.mem_append_right _ (List.mem_append_left _ (.tail _ (List.mem_map.2 ⟨y,hy,rfl⟩))))).at_ _ hq i y hy)) (WL.c0 (v:=.bool true) (vs:=[.slice laa la.length lac,tgV y]) (fun w' hw'=>has_law la laa lac sla hlas (nV q.cl) (by omega) hlal y.l y.a y.c (hlol y hym) (hol _ (List.mem_map.2 ⟨y,hym,rfl⟩)) w' (RTG.of_items (c:=lac) (show Sat w (fun _=>False) (fun b=>b<w1.heap.size∧∀ i∈([]:List Hw.Item),¬ i.D b) w1 (baseA k1++((rowR loa loc lo::lo.map tgA)++(rowR laa lac la::la.map tgA))) w' from hw') (List.mem_append_right _ (List.mem_append_right _ (.head _))) (fun y hy=>List.mem_append_right _ (List.mem_append_right _ (.tail _ (List.mem_map.2 ⟨y,hy,rfl⟩))))) ((RTG.of_items (c:=loc) (show Sat w (fun _=>False) (fun b=>b<w1.heap.size∧∀ i∈([]:List Hw.Item),¬ i.D b) w1 (baseA k1++((rowR loa loc lo::lo.map tgA)++(rowR laa lac la::la.map tgA))) w' from hw') (List.mem_append_right _ (List.mem_append_left _ (.head _))) (fun y hy=>List.mem_append_right _ (List.mem_append_left _ (.tail _ (List.mem_map.2 ⟨y,hy,rfl⟩))))).args y hym)) ?_))
  refine Zv (OV.not rfl) (Nn (WC.bu (show _=some (Value.bool false) from by rfl) ?_))
  refine Ck (Xb (Xn (Cr (Zm rfl (Zv (OV.bi (j:=1) rfl rfl (by omega)) (Za rfl (Nl ?_)))))))
  exact WX.bg (i+1) Y7 (fun w' hw=>⟨by omega,hw⟩) (by show lo.length - (i+1)<lo.length - i;omega)
 refine Ce (Xe (Xe (Xh (Xn (Cs (Csr (Za rfl (Nn (Cb ?_)))))))))
 refine WC.gp (fun (lead cnt:Nat) (z:BaseG)=>[(5,.pointer (some ⟨b5,0,none⟩)),(7,ptr ph1),(9,.int .i64 (nV q.cl:Nat)),(10,.slice laa la.length lac),(12,.slice loa lo.length loc),(14,.int .i64 (cnt:Int)),(16,.int .i64 (lead:Int))])
   (fun lead cnt z w'=>(lead≤q.bd.length∧cnt≤1048576*(lead+1)∧CntOK (Jcp (mfL f.o n) (mfL f.n n) (mfL f.x n)) q.cl (nV q.cl) (lo.map TG.l) lead cnt∧BS z _ (Jcp (mfL f.o n) (mfL f.n n) (mfL f.x n))∧z.p=ph1)∧Sat w (fun _=>False) (fun b=>b<w1.heap.size∧∀ i∈([]:List Hw.Item),¬ i.D b) w1 (baseA z++((rowR loa loc lo::lo.map tgA)++(rowR laa lac la::la.map tgA))) w')
   (fun lead _ _=>q.bd.length - lead) 0 lo.length k1 Y7 (fun w' hw=>⟨⟨by omega,by omega,by have h9:=CntOK.zero (F:=(Jcp (mfL f.o n) (mfL f.n n) (mfL f.x n))) (c:=q.cl) (n:=nV q.cl) (lo:=lo.map TG.l);rwa [List.length_map] at h9,bk1,pk1⟩,hw⟩) ?_
 intro lead cnt z
 refine WC.pure (fun hi=>?_)
 obtain ⟨hi,hcb,hcn,bz,hzp⟩:=hi
 refine Cs (Csr (Zm rfl ?_))
 first
 | (refine WL.val (OV.f0 5 rfl T.u32 rfl) rfl ?_;trace "ALT Jbj#5 75ec517c 0")
 | (refine WL.val (OV.di (off:=5) rfl T.u32 rfl) rfl ?_;trace "ALT Jbj#5 75ec517c 1")
 refine Zv (OV.ah (v:=.slice q.ba q.bd.length q.bc) rfl T.u22 rfl (fun _ hw=>snapK hw _ _ (hbq 5 _ rfl))) ?_
 first
 | (refine WL.val (OV.ae rfl T.u22) rfl ?_;trace "ALT Jbj#6 c04edde8 0")
 | (refine WL.val (OV.dc rfl T.u22) rfl ?_;trace "ALT Jbj#6 c04edde8 1")
 refine Zv (OV.cm rfl rfl) (Nn ?_)
 refine Cc rfl (fun c95=>?_) (fun c95=>?_)
 ·refine Ck (Xn (Cs (Cb (Csr (Zm rfl (Zv (OV.ai (cs:=cgC q) rfl T.u32 rfl T.z32 (fun _ hw j v hj=>by rw [Jap,Nat.zero_add];exact snapK hw _ _ (hbq j v hj))) (Zm rfl ?_)))))))
  refine WL.cT (ι:=BaseG × Option Addr × Nat × List TG) (vs:=[ptr ph1,cgV q,.int .i64 (lead:Int)]) (vv:=fun z=>.tuple #[.slice z.2.1 z.2.2.2.length z.2.2.1,.int .i64 0]) (pp:=fun z=>(BS z.1 _ (Jcp (mfL f.o n) (mfL f.n n) (mfL f.x n))∧z.1.p=ph1)∧Str cmpR (z.2.2.2.map TG.l)∧(∀ r,r∈z.2.2.2.map TG.l↔Sol (FFs (Jcp (mfL f.o n) (mfL f.n n) (mfL f.x n)) (some lead)) q.cl (nV q.cl) r)∧z.2.2.2.length≤1048576) (baseA z) (AA:=fun z=>baseA z.1++(rowR z.2.1 z.2.2.1 z.2.2.2::z.2.2.2.map tgA)) rfl (fun w' hw' hH=>by
   have h9:=Ji4 z _ _ bz (by omega) Jec q hv.cs hv (some lead) (fun l hl=>by cases hl;rw [hqb];omega) (Jj8 (Nat.le_trans bz.fk (by omega)) hmsm) w1 w' (snapK hw') (snapB hw') hN hC hrq hH
   rw [hzp] at h9
   exact h9) ?_
  rintro ⟨k3,lla,llc,ll⟩ ⟨⟨bk3,pk3⟩,sll,ell,zll⟩
  dsimp only at bk3 pk3 sll ell zll
  refine Zm rfl (Zv (OV.extract rfl rfl) (Zv (OV.extract rfl rfl) (Za rfl (Za rfl (Nn (Cs (Cs ?_)))))))
  have hlll:∀ y∈ll,y.l.length=nV q.cl:=fun y hy=>((ell _).1 (List.mem_map.2 ⟨y,hy,rfl⟩)).len
  have hllk:∀ y∈ll,∀ t∈y.l,Jcr t=true:=fun y hy=>Jlj hv (fun i x hx=>by
   obtain ⟨m,hm,_⟩:=Jn6.1 hx
   exact Jec _ hm) ((ell _).1 (List.mem_map.2 ⟨y,hy,rfl⟩))
  have hlls:ll.length≤1099511627776:=by omega
  have hcb2:cnt≤1048576*9:=Nat.le_trans hcb (Nat.mul_le_mul_left _ (by omega))
  have hLd:LdOK (Jcp (mfL f.o n) (mfL f.n n) (mfL f.x n)) q.cl (nV q.cl) lead (ll.map TG.l):=⟨sll,ell⟩
  have hll1:=lead_in ela hLd
  have hll2:=lead_out (by rw [hqb];omega) elo hLd
  refine Cr (Zm rfl (Zv ((OV.ic rfl rfl).cast (u:=.bool false) rfl) (Zm rfl (WL.known (t:=107) (b:=false) rfl (by rfl) ?_))))
  refine Zg rfl rfl rfl (Zm rfl (Zg rfl rfl rfl (Zm rfl (Zg rfl rfl rfl (WL.c0 (v:=.bool true) (vs:=[.slice lla ll.length llc,.int .i64 (nV q.cl:Nat)]) (fun w' hw'=>Jln ll lla llc sll hlls (nV q.cl) (by omega) hlll hllk w' (RTG.of_items (c:=llc) (show Sat w (fun _=>False) (fun b=>b<w1.heap.size∧∀ i∈([]:List Hw.Item),¬ i.D b) w1 ((baseA k3++(rowR lla llc ll::ll.map tgA))++((rowR loa loc lo::lo.map tgA)++(rowR laa lac la::la.map tgA))) w' from hw') (List.mem_append_left _ (List.mem_append_right _ (.head _))) (fun y hy=>List.mem_append_left _ (List.mem_append_right _ (.tail _ (List.mem_map.2 ⟨y,hy,rfl⟩)))))) ?_)))))
  refine Zg rfl rfl rfl (Zv (OV.not rfl) (Zv (OV.aj rfl rfl) (Nn (WC.bu (show _=some (Value.bool false) from by rfl) ?_))))
  refine Ck (Xn (Csr (Zm rfl (Zm rfl ?_))))
  first
  | (refine WL.val (OV.ae rfl T.u39) rfl ?_;trace "ALT Jbj#7 c04edde8 0")
  | (refine WL.val (OV.dc rfl T.u39) rfl ?_;trace "ALT Jbj#7 c04edde8 1")
  refine Zv ((OV.bi (i:=cnt) (j:=ll.length) rfl rfl (by omega)).cast (u:=.int .i64 ((cnt+ll.length:Nat):Int)) rfl) (Za rfl (Nn (Csr (Za rfl (Nn (Cb ?_))))))
  refine WC.cg (fun (i:Nat)=>[(5,.pointer (some ⟨b5,0,none⟩)),(7,ptr ph1),(9,.int .i64 (nV q.cl:Nat)),(10,.slice laa la.length lac),(12,.slice loa lo.length loc),(14,.int .i64 ((cnt+ll.length:Nat):Int)),(16,.int .i64 (lead:Int)),(17,.slice lla ll.length llc),(19,.int .i64 (i:Int))])
    (fun i w'=>i≤ll.length∧Sat w (fun _=>False) (fun b=>b<w1.heap.size∧∀ i∈([]:List Hw.Item),¬ i.D b) w1 ((baseA k3++(rowR lla llc ll::ll.map tgA))++((rowR loa loc lo::lo.map tgA)++(rowR laa lac la::la.map tgA))) w')
    (fun i=>ll.length - i) 0 Y9 (fun w' hw=>⟨by omega,hw⟩) ?_
  intro i
  refine WC.pure (fun hi=>?_)
  refine Cs (Csr (Zm rfl (Zm rfl ?_)))
  first
  | (refine WL.val (OV.ae rfl T.u39) rfl ?_;trace "ALT Jbj#8 c04edde8 0")
  | (refine WL.val (OV.dc rfl T.u39) rfl ?_;trace "ALT Jbj#8 c04edde8 1")
  refine Zv (OV.cm rfl rfl) (Nn ?_)
  refine Cc rfl (fun c120=>?_) (fun c120=>?_)
  ·refine Ck (Xn (Cs (Cb (Csr (Zm rfl (Zm rfl (Zm rfl ?_)))))))
   refine WL.jd (fun w' hw'=>((RTG.of_items (c:=llc) (show Sat w (fun _=>False) (fun b=>b<w1.heap.size∧∀ i∈([]:List Hw.Item),¬ i.D b) w1 ((baseA k3++(rowR lla llc ll::ll.map tgA))++((rowR loa loc lo::lo.map tgA)++(rowR laa lac la::la.map tgA))) w' from hw') (List.mem_append_left _ (List.mem_append_right _ (.head _))) (fun y hy=>List.mem_append_left _ (List.mem_append_right _ (.tail _ (List.mem_map.2 ⟨y,hy,rfl⟩))))).get (i:=i) (by omega)).imp (fun q8 h=>h.imp (fun y h2=>(⟨h2.1,h2.2.1,h2.2.2.1⟩:lla=some q8∧ll[i]?=some y∧y∈ll)))) (fun hqq=>?_)
   obtain ⟨q8,y,hq,hy,hym⟩:=hqq
   refine Zv ((OV.ad (show _=some (Value.slice (some q8) ll.length llc) by rw [← hq];rfl) rfl T.u39 T.z27 (by omega)).cast (u:=.pointer (some (q8.add i))) (by rw [Int.toNat_natCast,Nat.mul_one])) (Zv (OV.ah (v:=tgV y) rfl T.u27 rfl (fun w' hw'=>(RTG.of_items (c:=llc) (show Sat w (fun _=>False) (fun b=>b<w1.heap.size∧∀ i∈([]:List Hw.Item),¬ i.D b) w1 ((baseA k3++(rowR lla llc ll::ll.map tgA))++((rowR loa loc lo::lo.map tgA)++(rowR laa lac la::la.map tgA))) w' from hw') (List.mem_append_left _ (List.mem_append_right _ (.head _))) (fun y hy=>List.mem_append_left _ (List.mem_append_right _ (.tail _ (List.mem_map.2 ⟨y,hy,rfl⟩))))).at_ _ hq i y hy)) (WL.c0 (v:=.bool true) (vs:=[.slice laa la.length lac,tgV y]) (fun w' hw'=>has_law la laa lac sla hlas (nV q.cl) (by omega) hlal y.l y.a y.c (hlll y hym) (hll1 _ (List.mem_map.2 ⟨y,hym,rfl⟩)) w' (RTG.of_items (c:=lac) (show Sat w (fun _=>False) (fun b=>b<w1.heap.size∧∀ i∈([]:List Hw.Item),¬ i.D b) w1 ((baseA k3++(rowR lla llc ll::ll.map tgA))++((rowR loa loc lo::lo.map tgA)++(rowR laa lac la::la.map tgA))) w' from hw') (List.mem_append_right _ (List.mem_append_right _ (.head _))) (fun y hy=>List.mem_append_right _ (List.mem_append_right _ (.tail _ (List.mem_map.2 ⟨y,hy,rfl⟩))))) ((RTG.of_items (c:=llc) (show Sat w (fun _=>False) (fun b=>b<w1.heap.size∧∀ i∈([]:List Hw.Item),¬ i.D b) w1 ((baseA k3++(rowR lla llc ll::ll.map tgA))++((rowR loa loc lo::lo.map tgA)++(rowR laa lac la::la.map tgA))) w' from hw') (List.mem_append_left _ (List.mem_append_right _ (.head _))) (fun y hy=>List.mem_append_left _ (List.mem_append_right _ (.tail _ (List.mem_map.2 ⟨y,hy,rfl⟩))))).args y hym)) ?_))
   refine Zv (OV.not rfl) (Zm rfl (WL.known (t:=130) (b:=false) rfl (by rfl) ?_))
   refine Zg rfl rfl rfl (Zm rfl (Zg rfl rfl rfl (Zm rfl (Zg rfl rfl rfl (Zm rfl (Zg rfl rfl rfl (Zv ((OV.ad (show _=some (Value.slice (some q8) ll.length llc) by rw [← hq];rfl) rfl T.u39 T.z27 (by omega)).cast (u:=.pointer (some (q8.add i))) (by rw [Int.toNat_natCast,Nat.mul_one])) (Zg rfl rfl rfl (Zv (OV.ah (v:=tgV y) rfl T.u27 rfl (fun w' hw'=>(RTG.of_items (c:=llc) (show Sat w (fun _=>False) (fun b=>b<w1.heap.size∧∀ i∈([]:List Hw.Item),¬ i.D b) w1 ((baseA k3++(rowR lla llc ll::ll.map tgA))++((rowR loa loc lo::lo.map tgA)++(rowR laa lac la::la.map tgA))) w' from hw') (List.mem_append_left _ (List.mem_append_right _ (.head _))) (fun y hy=>List.mem_append_left _ (List.mem_append_right _ (.tail _ (List.mem_map.2 ⟨y,hy,rfl⟩))))).at_ _ hq i y hy)) (Zg rfl rfl rfl (WL.c0 (v:=.bool false) (vs:=[.slice loa lo.length loc,tgV y]) (fun w' hw'=>Jgc lo loa loc hlos (nV q.cl) (by omega) hlol y.l y.a y.c (hlll y hym) (hll2 _ (List.mem_map.2 ⟨y,hym,rfl⟩)) w' (RTG.of_items (c:=loc) (show Sat w (fun _=>False) (fun b=>b<w1.heap.size∧∀ i∈([]:List Hw.Item),¬ i.D b) w1 ((baseA k3++(rowR lla llc ll::ll.map tgA))++((rowR loa loc lo::lo.map tgA)++(rowR laa lac la::la.map tgA))) w' from hw') (List.mem_append_right _ (List.mem_append_left _ (.head _))) (fun y hy=>List.mem_append_right _ (List.mem_append_left _ (.tail _ (List.mem_map.2 ⟨y,hy,rfl⟩))))) ((RTG.of_items (c:=llc) (show Sat w (fun _=>False) (fun b=>b<w1.heap.size∧∀ i∈([]:List Hw.Item),¬ i.D b) w1 ((baseA k3++(rowR lla llc ll::ll.map tgA))++((rowR loa loc lo::lo.map tgA)++(rowR laa lac la::la.map tgA))) w' from hw') (List.mem_append_left _ (List.mem_append_right _ (.head _))) (fun y hy=>List.mem_append_left _ (List.mem_append_right _ (.tail _ (List.mem_map.2 ⟨y,hy,rfl⟩))))).args y hym)) ?_)))))))))))
   refine Zv (OV.aj rfl rfl) (Nn (WC.bu (show _=some (Value.bool false) from by rfl) ?_))
   refine Ck (Xb (Xn (Cr (Zm rfl (Zv (OV.bi (j:=1) rfl rfl (by omega)) (Za rfl (Nl ?_)))))))
   exact WX.bg (i+1) Y9 (fun w' hw=>⟨by omega,hw⟩) (by show ll.length - (i+1)<ll.length - i;omega)
  refine Ce (Xe (Xe (Xh (Xb (Xn (Cr (Zm rfl (Zv (OV.bi (j:=1) rfl rfl (by omega)) (Za rfl (Nl ?_))))))))))
  exact WX.d7 (lead+1) (cnt+ll.length) k3 Y7 (fun w' hw=>⟨⟨by omega,by omega,by have h9:=hcn.snoc hLd;rwa [List.length_map] at h9,bk3,pk3⟩,by
   rw [List.append_assoc] at hw
   exact hw.pik [baseA k3,(rowR lla llc ll::ll.map tgA),(rowR loa loc lo::lo.map tgA)++(rowR laa lac la::la.map tgA)] [0,2] 3⟩) (by show q.bd.length - (lead+1)<q.bd.length - lead;omega)
 refine Ce (Xe (Xe (Xh (Xn (Cs ?_)))))
 obtain rfl:lead=q.bd.length:=by omega
 have hcnt:cnt=la.length:=by
  rw [← hqb] at hcn
  have h9:=CntOK.done sla slo ela elo hcn
  rwa [List.length_map] at h9
 refine Cr (Zm rfl (Zm rfl ?_))
 first
 | (refine WL.val (OV.ae rfl T.u39) rfl ?_;trace "ALT Jbj#9 c04edde8 0")
 | (refine WL.val (OV.dc rfl T.u39) rfl ?_;trace "ALT Jbj#9 c04edde8 1")
 refine Zv ((OV.d0 rfl rfl).cast (u:=.bool true) (by rw [hcnt];simp)) (Za rfl (Nn (WC.az ?_)))
 exact WX.ret1 rfl rfl rfl (fun w' hw=>⟨rfl,hw.fr⟩)
end Go.Proofs.YtgebaodagaecmaaGreatDoor
