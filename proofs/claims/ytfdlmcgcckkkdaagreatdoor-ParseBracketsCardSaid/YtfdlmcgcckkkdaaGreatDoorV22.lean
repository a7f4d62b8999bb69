/- ParseWhole, part 22: what it stands on. -/
import Derived.Test.YtfdlmcgcckkkdaaGreatDoorV21
import Derived.Test.YtfdlmcgcckkkdaaGreatDoorV17
set_option linter.all false
set_option maxHeartbeats 40000000
set_option maxRecDepth 100000
namespace Go.Proofs.YtfdlmcgcckkkdaaGreatDoor
section
open Go.RowKit Lx Px
theorem leA{p:Prop}(h:p:=by(try dsimp only);omega):p:=h
theorem tvk{wB w1 w':World}{qb B:Nat}{v:Value}{l':List Tk}{rv}{x y z u q:Value}(KT:Hid (∀ (w':World) (l':List Tk) (rv:List (Nat×List Value)),SP wB qb w1 v w' l' rv→TV w' B x y z u q))(S:SP wB qb w1 v w' l' rv):w'.cell? ⟨B,0,none⟩=some x∧w'.cell? ⟨B,1,none⟩=some y∧w'.cell? ⟨B,2,none⟩=some z∧w'.cell? ⟨B,3,none⟩=some u∧w'.cell? ⟨B,4,none⟩=some q∧w'.frozen? ⟨B,0,none⟩=false∧w'.frozen? ⟨B,1,none⟩=false∧w'.frozen? ⟨B,2,none⟩=false∧w'.frozen? ⟨B,3,none⟩=false∧w'.frozen? ⟨B,4,none⟩=false:=TV.facts (KT.out _ _ _ S)
theorem ctA{p:Prop}(h:p:=by first|rfl|(simp only[vB,wY,DC,kwF,List.map_drop,List.map_take,List.append_assoc];rfl)|simp[vB,wY,DC,kwF,List.map_drop,List.map_take,eQ,uE,lS,mW,pF]):p:=h
def PG(f:FuncId)(k:Int)(tok:T→Int→Int→ByteArray→List Tk):Prop:=∀ (wB:World) (_:eJ wB) (qb:Nat) (t:T) (_:PD wB qb t) (w:World) (v:Value) (l:List Tk) (n a:Int) (s:ByteArray) (ao:Option Addr) (m c:Nat) (_:Pt wB qb w v l) (_:Tr wB t (vT k n a s ao m c)) (_:l.length+(tok t n a s).length≤dK),
 Calls Tryz.prog f #[pq qb,tg k n a s ao m c] w (PrQ wB qb w v l (tok t n a s))
theorem gT{wB w:World}{qb:Nat}{v:Value}{l:List Tk}(h:Pt wB qb w v l)(A:Array Value):Below w.heap.size w (w.alloc (.cells A 24))∧(w.alloc (.cells A 24)).heap[w.heap.size]?=some (.cells A 24 (0,0))∧Pt wB qb (w.alloc (.cells A 24)) v l∧v.ownBlock≠some w.heap.size∧w.heap.size≠qb∧w.heap.size<(w.alloc (.cells A 24)).heap.size:=
 ⟨aC w _,heap_alloc_new w _,h.below (aC w _),fun e=>by have:=(h.own.lt _ e).2;omega,by have:=h.lt;omega,by simp⟩
theorem zL{wB w:World}{qb:Nat}{v:Value}{l:List Tk}(h:Pt wB qb w v l)(A:Array Value):Below w.heap.size w ((w.alloc (.cells #[pq qb] 113)).alloc (.cells A 24))∧((w.alloc (.cells #[pq qb] 113)).alloc (.cells A 24)).heap[w.heap.size+1]?=some (.cells A 24 (0,0))∧((w.alloc (.cells #[pq qb] 113)).alloc (.cells A 24)).heap[w.heap.size]?=some (.cells #[pq qb] 113 (0,0))∧Pt wB qb ((w.alloc (.cells #[pq qb] 113)).alloc (.cells A 24)) v l∧v.ownBlock≠some (w.heap.size+1)∧w.heap.size+1≠qb∧w.heap.size+1<((w.alloc (.cells #[pq qb] 113)).alloc (.cells A 24)).heap.size∧v.ownBlock≠some w.heap.size∧w.heap.size≠qb∧w.heap.size<((w.alloc (.cells #[pq qb] 113)).alloc (.cells A 24)).heap.size:=by
 have b1:=aC w (.cells #[pq qb] 113);have n2:=heap_alloc_new w (.cells #[pq qb] 113);have hs:(w.alloc (.cells #[pq qb] 113)).heap.size=w.heap.size+1:=by simp
 generalize w.alloc (.cells #[pq qb] 113)=w1 at b1 n2 hs ⊢;have b2:=aC w1 (.cells A 24);have n1:=heap_alloc_new w1 (.cells A 24);have hz:w1.heap.size<(w1.alloc (.cells A 24)).heap.size:=by simp
 have B:=b1.trans (b2.mono b1.size);rw[hs]at n1 hz;exact⟨B,n1,(b2.block _ (by omega)).trans n2,h.below B,fun e=>by have:=(h.own.lt _ e).2;omega,by have:=h.lt;omega,hz,fun e=>by have:=(h.own.lt _ e).2;omega,by have:=h.lt;omega,by omega⟩
theorem kt1{wB w1:World}{qb B:Nat}{v:Value}{l:List Tk}{x y z u q:Value}(h1:Pt wB qb w1 v l)(hz:B<w1.heap.size)(hq:B≠qb)(ho:v.ownBlock≠some B)(n1:w1.heap[B]?=some (.cells #[x,y,z,u,q] 24 (0,0))):Hid (∀ (w':World) (l':List Tk) (rv:List (Nat×List Value)),SP wB qb w1 v w' l' rv→TV w' B x y z u q)∧SP wB qb w1 v w1 l []∧Hid (B<w1.heap.size)∧Hid (w1.heap[B]?=some (.cells #[x,y,z,u,q] 24 (0,0))):=
 ⟨hdq fun _ _ _ S=>(S.old hz hq ho).trans n1,SP.begin h1,hdq hz,hdq n1⟩
theorem kt2{wB w1:World}{qb B C:Nat}{v:Value}{l:List Tk}{x y z u q:Value}(h1:Pt wB qb w1 v l)(hz:B<w1.heap.size)(hq:B≠qb)(ho:v.ownBlock≠some B)(n1:w1.heap[B]?=some (.cells #[x,y,z,u,q] 24 (0,0)))(hz2:C<w1.heap.size)(hq2:C≠qb)(ho2:v.ownBlock≠some C)(n2:w1.heap[C]?=some (.cells #[pq qb] 113 (0,0))):Hid (∀ (w':World) (l':List Tk) (rv:List (Nat×List Value)),SP wB qb w1 v w' l' rv→TV w' B x y z u q)∧SP wB qb w1 v w1 l []∧Hid (B<w1.heap.size)∧Hid (w1.heap[B]?=some (.cells #[x,y,z,u,q] 24 (0,0)))∧Hid (∀ (w':World) (l':List Tk) (rv:List (Nat×List Value)),SP wB qb w1 v w' l' rv→w'.cell? ⟨C,0,none⟩=some (.pointer (some ⟨qb,0,none⟩)))∧Hid (w1.heap[C]?=some (.cells #[pq qb] 113 (0,0))):=
 ⟨hdq fun _ _ _ S=>(S.old hz hq ho).trans n1,SP.begin h1,hdq hz,hdq n1,hdq fun _ _ _ S=>cell_of_row _ _ 0 _ _ _ ((S.old hz2 hq2 ho2).trans n2),hdq n2⟩
theorem eS{wB w w1 w':World}{qb:Nat}{v:Value}{l2:List Tk}{rv}(S:SP wB qb w1 v w' l2 rv)(b1:Below w.heap.size w w1)(l tok:List Tk)(e:l2=l++tok:=by simp only[List.append_assoc,List.append_nil]):PrQ wB qb w v l tok (.returned (.tuple #[])) w':=by
 subst e;exact PrQ.pre (SP.Da S) b1
theorem yU{s:ByteArray}(h:s.size=0):s=⟨#[]⟩:=by
 obtain⟨⟨d⟩⟩:=s;have:d.length=0:=h;rw[List.length_eq_zero_iff]at this;rw[this]
theorem sD(wB:World)(qb:Nat)(w:World)(v:Value)(l:List Tk)(word:ByteArray)(B2 B3:Nat)(x y z u:Value)(s:ByteArray)(h:Pt wB qb w v l)(hp:w.heap[B2]?=some (.cells #[pq qb] 113 (0,0)))(n2:B2≠qb)(o2:v.ownBlock≠some B2)(ht:TV w B3 x y z s u)(n3:B3≠qb)(o3:v.ownBlock≠some B3)(hl:l.length+5≤dK):Calls Tryz.prog 173 #[word,pq B2,pq B3] w (PrQ wB qb w v l ([word,gZ].map W++([sLP].map O++([s].map W++[sRP].map O)))):=by
 have l2:=(Array.getElem?_eq_some_iff.1 hp).1;have l3:=ht.lt;have kp:∀ (w':World) (l':List Tk) (rv:List (Nat×List Value)),SP wB qb w v w' l' rv→w'.cell? ⟨B2,0,none⟩=some (.pointer (some ⟨qb,0,none⟩)):=fun _ _ _ S=>cell_of_row _ _ 0 _ _ _ ((S.old l2 n2 o2).trans hp)
 have kt:∀ (w':World) (l':List Tk) (rv:List (Nat×List Value)),SP wB qb w v w' l' rv→TV w' B3 x y z s u:=fun _ _ _ S=>(S.old l3 n3 o3).trans ht
 have KP:=hdq kp;have KT:=hdq kt;have S0:=SP.begin h;clear kp kt hp ht h;go_enter Tryz.func173,Tryz.ntmps173;have kq0:=KP.out _ _ _ S0;have:=TV.facts (KT.out _ _ _ S0);go_upto_block 0 with fail;refine m2q (S0.aL [word,gZ] aJ #[.string word,.string ⟨#[70,73,76,69]⟩] rfl 2 rfl) fun x1 S1=>?_;have kq1:=KP.out _ _ _ S1;have:=TV.facts (KT.out _ _ _ S1);go_upto_block 1 with fail;refine m2q (S1.opC [sLP] aJ #[.string ⟨#[40]⟩] rfl 1 rfl) fun x2 S2=>?_;have kq2:=KP.out _ _ _ S2;have:=TV.facts (KT.out _ _ _ S2);go_upto_block 2 with fail;refine m2q (S2.aL [s] aJ #[.string s] rfl 1 rfl) fun x3 S3=>?_;have kq3:=KP.out _ _ _ S3;have:=TV.facts (KT.out _ _ _ S3);go_upto_block 3 with fail;refine m2q (S3.opC [sRP] aJ #[.string ⟨#[41]⟩] rfl 1 rfl) fun x4 S4=>?_;have P:PrQ wB qb w v l ([word,gZ].map W++([sLP].map O++([s].map W++[sRP].map O))) (.returned (.tuple #[])) _:=SP.Da (by simpa only[List.append_assoc]using S4);clear S0 S1 S2 S3 S4
 go_wp2
 go_end0;exact P
theorem zJ(wB:World)(qb:Nat)(w:World)(v:Value)(l:List Tk)(word:ByteArray)(B2 B3:Nat)(x y z u:Value)(s:ByteArray)(h:Pt wB qb w v l)(hp:w.heap[B2]?=some (.cells #[pq qb] 113 (0,0)))(n2:B2≠qb)(o2:v.ownBlock≠some B2)(ht:TV w B3 x y z s u)(n3:B3≠qb)(o3:v.ownBlock≠some B3)(hl:l.length+2≤dK):Calls Tryz.prog 174 #[word,pq B2,pq B3] w (PrQ wB qb w v l (eQ word s)):=by
 have l2:=(Array.getElem?_eq_some_iff.1 hp).1;have l3:=ht.lt;have kp:∀ (w':World) (l':List Tk) (rv:List (Nat×List Value)),SP wB qb w v w' l' rv→w'.cell? ⟨B2,0,none⟩=some (.pointer (some ⟨qb,0,none⟩)):=fun _ _ _ S=>cell_of_row _ _ 0 _ _ _ ((S.old l2 n2 o2).trans hp)
 have kt:∀ (w':World) (l':List Tk) (rv:List (Nat×List Value)),SP wB qb w v w' l' rv→TV w' B3 x y z s u:=fun _ _ _ S=>(S.old l3 n3 o3).trans ht
 have KP:=hdq kp;have KT:=hdq kt;have S0:=SP.begin h;clear kp kt hp ht h
 by_cases hs:s=⟨#[]⟩
 ·subst hs;go_enter Tryz.func174,Tryz.ntmps174;have kq0:=KP.out _ _ _ S0;go_upto_block 0 with fail;refine m2q (S0.aL [word] aJ #[.string word] rfl 1 rfl) fun x1 S1=>?_;have:=TV.facts (KT.out _ _ _ S1);have P:PrQ wB qb w v l (eQ word ⟨#[]⟩) (.returned (.tuple #[])) _:=SP.Da (show SP _ _ _ _ _ (l++([word].map W)) _ from S1);clear S0 S1
  go_wp2
  go_end0;exact P
 ·have hs1:(s.toList == [])=false:=beq_eq_false_iff_ne.2 fun e=>hs (by rw[← kK,e,ByteArray.toList_eq])
  have hs2:decide (s=⟨#[]⟩)=false:=decide_eq_false hs;have HT:=hdq (show eQ word s=[word].map W++[s].map W by unfold eQ;rw[if_neg (fun e=>hs (yU e))];rfl);go_enter Tryz.func174,Tryz.ntmps174;have kq0:=KP.out _ _ _ S0;go_upto_block 0 with fail;refine m2q (S0.aL [word] aJ #[.string word] rfl 1 rfl) fun x1 S1=>?_;have:=TV.facts (KT.out _ _ _ S1);have kq1:=KP.out _ _ _ S1;clear hs;go_upto_block 2 with fail;refine m2q (S1.aL [s] aJ #[.string s] rfl 1 rfl) fun x2 S2=>?_;have P:PrQ wB qb w v l (eQ word s) (.returned (.tuple #[])) _:=SP.Da (by rw[HT.out,← List.append_assoc];exact S2);clear S0 S1 S2
  go_wp2
  go_end0;exact P
end
section
open Go.RowKit Lx Px
section
variable {wB w0 w:World} {qb:Nat} {v0:Value} {l:List Tk} {rv:List (Nat×List Value)}
theorem SP.op1(S:SP wB qb w0 v0 w l rv){s:ByteArray}{n:Nat}{cs:Array Value}(hcs:cs=#[.string s]:=by exact rfl)(hn:n=1:=by exact rfl)(hl:l.length+1≤dK:=by exact aJ) :
 Calls Tryz.prog 110 #[pq qb,.slice (some ⟨w.heap.size,0,none⟩) n n] (w.alloc (.cells cs 9)) fun e w'=>e=.returned (.tuple #[])∧SP wB qb w0 v0 w' (l++[s].map O) rv:=by subst hcs hn;exact S.opC [s] hl #[.string s] rfl 1 rfl
theorem SP.UG(S:SP wB qb w0 v0 w l rv){s:ByteArray}{n:Nat}{cs:Array Value}(hcs:cs=#[.string s]:=by exact rfl)(hn:n=1:=by exact rfl)(hl:l.length+1≤dK:=by exact aJ) :
 Calls Tryz.prog 111 #[pq qb,.slice (some ⟨w.heap.size,0,none⟩) n n] (w.alloc (.cells cs 9)) fun e w'=>e=.returned (.tuple #[])∧SP wB qb w0 v0 w' (l++[s].map W) rv:=by subst hcs hn;exact S.aL [s] hl #[.string s] rfl 1 rfl
theorem SP.UE(S:SP wB qb w0 v0 w l rv){s t:ByteArray}{n:Nat}{cs:Array Value}(hcs:cs=#[.string s,.string t]:=by exact rfl)(hn:n=2:=by exact rfl)(hl:l.length+2≤dK:=by exact aJ) :
 Calls Tryz.prog 111 #[pq qb,.slice (some ⟨w.heap.size,0,none⟩) n n] (w.alloc (.cells cs 9)) fun e w'=>e=.returned (.tuple #[])∧SP wB qb w0 v0 w' (l++[s,t].map W) rv:=by subst hcs hn;exact S.aL [s,t] hl #[.string s,.string t] rfl 2 rfl
theorem SP.UB(S:SP wB qb w0 v0 w l rv){s t u:ByteArray}{n:Nat}{cs:Array Value}(hcs:cs=#[.string s,.string t,.string u]:=by exact rfl)(hn:n=3:=by exact rfl)(hl:l.length+3≤dK:=by exact aJ) :
 Calls Tryz.prog 111 #[pq qb,.slice (some ⟨w.heap.size,0,none⟩) n n] (w.alloc (.cells cs 9)) fun e w'=>e=.returned (.tuple #[])∧SP wB qb w0 v0 w' (l++[s,t,u].map W) rv:=by subst hcs hn;exact S.aL [s,t,u] hl #[.string s,.string t,.string u] rfl 3 rfl
theorem SP.Tq(S:SP wB qb w0 v0 w l rv){t:T}{k n a:Int}{s:ByteArray}{ao:Option Addr}{m c:Nat}(ht:Tr wB t (vT k n a s ao m c))(i:Nat){j:Int}(hj:j=i:=by exact rfl) :
 Calls Tryz.prog 114 #[tg k n a s ao m c,j] w fun e w'=>(∃ k' n' a' s' ao' m' c',e=.returned (tg k' n' a' s' ao' m' c')∧Tr wB (Px.part t.l i) (vT k' n' a' s' ao' m' c'))∧SP wB qb w0 v0 w' l rv:=by subst hj;exact S.aY ht i
theorem SP.Ul(S:SP wB qb w0 v0 w l rv){t:T}{k n a:Int}{s:ByteArray}{ao:Option Addr}{m c:Nat}(ht:Tr wB t (vT k n a s ao m c))(i:Nat){j:Int}(hj:j=i:=by first|exact rfl|assumption) :
 Calls Tryz.prog 121 #[tg k n a s ao m c,j] w fun e w'=>(∃ x,e=.returned x∧eF wB w' rv x (t.l.drop i))∧SP wB qb w0 v0 w' l rv:=by subst hj;exact S.iD ht i
theorem SP.oE(S:SP wB qb w0 v0 w l rv)(word:ByteArray){x:ByteArray}{t:T}{k n a:Int}{s:ByteArray}{ao:Option Addr}{m c:Nat}(ht:Tr wB t (vT k n a s ao m c))(hT:t.kind≠10→TP wB qb t)(hx:x=word:=by decide +kernel)(hl:l.length+(opt word t (prO false t)).length≤dK:=by exact aJ) :
 Calls Tryz.prog 158 #[pq qb,x,tg k n a s ao m c] w fun e w'=>e=.returned (.tuple #[])∧SP wB qb w0 v0 w' (l++opt word t (prO false t)) rv:=by subst hx;exact S.gY _ ht hT hl
theorem SP.box{s:Code}{P:Program}{Q:Exit→Act→World→Prop}{a:Act}{cs:Array Value}(S:SP wB qb w0 v0 w l rv)(us:List Value)(hc:cs=us.toArray)(h:∀ w',SP wB qb w0 v0 w' l ((w.heap.size,us)::rv)→s.wp P Q a w'):s.wp P Q a (w.alloc (.cells cs 24)):=
 h _ (S.cX us cs hc _ rfl)
end
theorem m2t{wB w1 w:World}{qb B:Nat}{v:Value}{x y z u q:Value}(KT:Hid (∀ (w':World) (l':List Tk) (rv:List (Nat×List Value)),SP wB qb w1 v w' l' rv→TV w' B x y z u q)){P:Program}{f:FuncId}{args:Array Value}{r:Value}{l':List Tk}{rv:List (Nat×List Value)}{R:Ending→World→Prop}(h:Calls P f args w fun e w'=>e=.returned r∧SP wB qb w1 v w' l' rv)(g:∀ w',SP wB qb w1 v w' l' rv→(w'.cell? ⟨B,0,none⟩=some x∧w'.cell? ⟨B,1,none⟩=some y∧w'.cell? ⟨B,2,none⟩=some z∧w'.cell? ⟨B,3,none⟩=some u∧w'.cell? ⟨B,4,none⟩=some q∧w'.frozen? ⟨B,0,none⟩=false∧w'.frozen? ⟨B,1,none⟩=false∧w'.frozen? ⟨B,2,none⟩=false∧w'.frozen? ⟨B,3,none⟩=false∧w'.frozen? ⟨B,4,none⟩=false)→R (.returned r) w'):Calls P f args w R:=by
 refine h.mono ?_;rintro e w' ⟨rfl,S⟩;exact g w' S (tvk KT S)
theorem UQ{wB w:World}{qb:Nat}{v:Value}{l:List Tk}{P:Program}{f:FuncId}{x y z u q:Value}{R:Ending→World→Prop}(h:Pt wB qb w v l)(k:Below w.heap.size w (w.alloc (.cells #[x,y,z,u,q] 24))→Hid (∀ (w':World) (l':List Tk) (rv:List (Nat×List Value)),SP wB qb (w.alloc (.cells #[x,y,z,u,q] 24)) v w' l' rv→TV w' w.heap.size x y z u q)→SP wB qb (w.alloc (.cells #[x,y,z,u,q] 24)) v (w.alloc (.cells #[x,y,z,u,q] 24)) l []→Calls P f #[pq qb,.agg #[x,y,z,u,q]] w R):Calls P f #[pq qb,.agg #[x,y,z,u,q]] w R:=by
 obtain⟨b1,n1,h1,ho,hq,hz⟩:=gT h #[x,y,z,u,q];obtain⟨KT,S0,_⟩:=kt1 h1 hz hq ho n1;exact k b1 KT S0
theorem UP{wB w w1 w':World}{qb:Nat}{v:Value}{l2:List Tk}{rv}(S:SP wB qb w1 v w' l2 rv)(b1:Below w.heap.size w w1)(l tok:List Tk)(e:l2=l++tok:=by first|(simp only[List.append_assoc,List.append_nil];done)|(simp only[List.append_assoc,List.append_nil];rfl)|rfl):PrQ wB qb w v l tok (.returned (.tuple #[])) w':=by
 subst e;exact PrQ.pre (SP.Da S) b1
theorem UJ{p:Prop}(h:p:=by first|exact eF.tree Sq.low ht|exact eF.tree Sq.low hxq|exact hyq ):p:=h
theorem UI{p:Prop}(h:p:=by first|exact D.n|exact D.nn _|(have:=D.n;rw[List.length_drop];omega)):p:=h
theorem UK{p:Prop}(h:p:=by first|exact D.l|exact D.ll _|exact fun y hy=>D.l y (List.mem_of_mem_drop hy)):p:=h
theorem cM{p:Prop}(h:p:=by
 refine UQ h fun b1 KT Sq=>?_;clear h
 (first|(have hsd:(s.toList == [80])=false:=beq_eq_false_iff_ne.2 fun e=>hs (by rw[← kK,e,ByteArray.toList_eq]))|skip)
 (first|(have hse:decide (s=⟨#[80]⟩)=false:=decide_eq_false hs)|skip)
 go_in
 go_upto_region 1 with fail;generalize World.alloc w _=w1 at b1 KT Sq ⊢;generalize w.heap.size=B3 at KT ⊢;have TT:=tvk KT Sq
 go_upto_region 99999 with (first
   | (go_at_call 110; refine m2t KT Sq.op1 fun x Sq TT => ?_; (first | (have VV := TV.facts (Sq.facts 0 rfl)) | skip))
   | (go_at_call 111; (first | refine m2t KT Sq.UG fun x Sq TT => ?_ | refine m2t KT Sq.UE fun x Sq TT => ?_ | refine m2t KT Sq.UB fun x Sq TT => ?_); (first | (have VV := TV.facts (Sq.facts 0 rfl)) | skip))
   | (go_at_call 114; (first | refine (Sq.Tq ht 0).mono ?_ | refine (Sq.Tq ht 1).mono ?_ | refine (Sq.Tq ht 2).mono ?_ | refine (Sq.Tq ht 3).mono ?_ | refine (Sq.Tq ht 4).mono ?_ | refine (Sq.Tq ht 5).mono ?_); rintro e x ⟨⟨kq, nq, aq, sq, oq, mq, cq, rfl, hxq⟩, Sq⟩; have TT := tvk KT Sq; (first | (have e9 : kq = 10 := hxq.split.1.trans hk0; subst e9) | skip); (first | (have e9 : kq = 40 := hxq.split.1.trans hk0; subst e9) | skip); (first | (have hz0 : ¬ kq = 10 := fun e => hk0 (hxq.split.1.symm.trans e)) | skip); (first | (have hz0 : ¬ kq = 40 := fun e => hk0 (hxq.split.1.symm.trans e)) | skip); (first | (have e9 : kq = 10 := hxq.split.1.trans hk1; subst e9) | skip); (first | (have hz0 : ¬ kq = 10 := fun e => hk1 (hxq.split.1.symm.trans e)) | skip); (first | (have e9 : mq = 0 := hxq.split.2.2.2.2.trans ha; subst e9) | skip); (first | (have e9 : mq = 0 := hxq.split.2.2.2.2.trans hb; subst e9) | skip); (first | (have hm0 : (0 : Int) < (mq : Int) := by have := hxq.split.2.2.2.2; omega) | skip))
   | (go_at_call 82; refine m2t KT (Sq.aN (D.p _) hxq aJ) fun x Sq TT => ?_; (first | (have VV := TV.facts (Sq.facts 0 rfl)) | skip))
   | (go_at_call 158; (first | refine m2t KT (Sq.oE eM hxq (fun _ => D.p _)) fun x Sq TT => ?_ | refine m2t KT (Sq.oE eL hxq (fun _ => D.p _)) fun x Sq TT => ?_ | refine m2t KT (Sq.oE Jw hxq (fun _ => D.p _)) fun x Sq TT => ?_ | refine m2t KT (Sq.oE wIN hxq (fun _ => D.p _)) fun x Sq TT => ?_ | refine m2t KT (Sq.oE wW hxq (fun _ => D.p _)) fun x Sq TT => ?_ | refine m2t KT (Sq.oE pM hxq (fun _ => D.p _)) fun x Sq TT => ?_ | refine m2t KT (Sq.oE kP hxq (fun _ => D.p _)) fun x Sq TT => ?_ | refine m2t KT (Sq.oE hZ hxq (fun _ => D.p _)) fun x Sq TT => ?_); (first | (have VV := TV.facts (Sq.facts 0 rfl)) | skip))
   | (go_at_call 112; refine m2t KT (Sq.aU UJ UI UK aJ) fun x Sq TT => ?_; (first | (have VV := TV.facts (Sq.facts 0 rfl)) | skip))
   | (go_at_call 112; have Sq := Sq.cX (vT kq nq aq sq oq mq cq) (tg kq nq aq sq oq mq cq) rfl _ rfl; refine m2t KT (Sq.aU (lt := [Px.part t.l 0]) (eF.one hxq (.head _) (Sq.tvb (.head _))) (show (1 : Nat) ≤ 1000000 by decide) (fun y hy => by rw [List.mem_singleton.1 hy]; exact D.p 0) aJ) fun x Sq TT => ?_; (first | (have VV := TV.facts (Sq.facts 0 rfl)) | skip))
   | (go_at_call 120; refine m2t KT (Sq.dV UJ UI UK aJ) fun x Sq TT => ?_; (first | (have VV := TV.facts (Sq.facts 0 rfl)) | skip))
   | (go_at_call 113; refine m2t KT (Sq.tK UJ UI UK aJ) fun x Sq TT => ?_; (first | (have VV := TV.facts (Sq.facts 0 rfl)) | skip))
   | (go_at_call 142; refine m2t KT (Sq.iF UJ UI UK aJ) fun x Sq TT => ?_; (first | (have VV := TV.facts (Sq.facts 0 rfl)) | skip))
   | (go_at_call 121; (first | refine (Sq.Ul ht 0).mono ?_ | refine (Sq.Ul ht 1).mono ?_ | refine (Sq.Ul ht 2).mono ?_ | refine (Sq.Ul ht 6).mono ?_); rintro e x ⟨⟨yq, rfl, hyq⟩, Sq⟩; have TT := tvk KT Sq)
   | (go_at_call 119; refine m2t KT (Sq.jO hTab n hr.1 hr.2 aJ) fun x Sq TT => ?_; (first | (have VV := TV.facts (Sq.facts 0 rfl)) | skip))
   | (go_at_call 109; refine m2t KT (Sq.call fun v2 hv => uK wB qb _ v2 _ _ _ hv aJ) fun x Sq TT => ?_; (first | (have VV := TV.facts (Sq.facts 0 rfl)) | skip))
   | (go_at_call 118; refine (Sq.MA hxq).mono ?_; rintro e x ⟨rfl, Sq⟩; rw [hc]; have TT := tvk KT Sq)
   | (go_at_call 159; refine m2t KT (Sq.call fun v2 hv => hX _ v2 _ hv aJ) fun x Sq TT => ?_; (first | (have VV := TV.facts (Sq.facts 0 rfl)) | skip))
   | (go_at_call 143; refine m2t KT (Sq.call fun v2 hv => hX _ v2 _ hv aJ) fun x Sq TT => ?_; (first | (have VV := TV.facts (Sq.facts 0 rfl)) | skip))
   | (go_at_call 122; refine m2t KT (Sq.call fun v2 hv => hX _ v2 _ hv aJ) fun x Sq TT => ?_; (first | (have VV := TV.facts (Sq.facts 0 rfl)) | skip))
   | (refine Sq.box _ rfl fun x Sq => ?_; have TT := tvk KT Sq; have VV := TV.facts (Sq.facts 0 rfl)))
 all_goals (go_end0;exact UP Sq b1 l _)):p:=h
theorem oT{p:Prop}(h:p:=by intro wB hTab qb t D w v l n a s ao m c h ht hl;exact cM):p:=h
end
end Go.Proofs.YtfdlmcgcckkkdaaGreatDoor
