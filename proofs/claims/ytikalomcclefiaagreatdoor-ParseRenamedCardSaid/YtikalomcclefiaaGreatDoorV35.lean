/- Part 35. -/
import Derived.Test.YtikalomcclefiaaGreatDoorV34
set_option linter.all false
set_option maxHeartbeats 0
set_option maxRecDepth 100000
namespace Go.Proofs.YtikalomcclefiaaGreatDoor
section
open Go.RowKit Lx Px
def PS.OX{w:World}{pb:Nat}{L:List T3}{n j:Nat}(h:PS w pb L j)(hi:n<L.length) :
 ∃ b off cap,w.cell? (AAF pb 0)=some (.slice (some (AAF b off)) L.length cap)/\w.cell? (AAF b (off+n*3+1))=some (.string (tok (lk L) n).text)/\b<pb:=h.text hi
def SV.old{pb:Nat}{L:List T3}{w0 w w':World}{j j':Nat}{rv ts rv' ts'}(S:SV pb L w0 w j rv ts)(S':SV pb L w0 w' j' rv' ts'){b:Nat}(hb:b<pb)(k:Nat):w'.cell? (AAF b k)=w.cell? (AAF b k):=by
 have hp:=S.hp;have e1:=S.ok.1.block b aB (λe=>by cases e;omega);have e2:=S'.ok.1.block b aB (λe=>by cases e;omega);exact tR (a:=(AAF b k)) (e2.trans e1.symm)
def SV.go{pb:Nat}{L:List T3}{w0 w:World}{j:Nat}{rv ts}(S:SV pb L w0 w j rv ts)(k:Nat)(hk:k<=L.length)(v:Value)(hv:v=.int .i64 k):SV pb L w0 (w.setCell (AAF pb 1) v) k rv ts:=by
 subst hv;exact S.step ⟨mN w pb 1 _,S.ps.set k hk⟩
def SV.Gs{pb:Nat}{L:List T3}{w0 w:World}{j:Nat}{rv ts}(S:SV pb L w0 w j rv ts)(a:Nat)(ha:a<=9)(b:Bool)(hb:dP (lk L) (j+a)=b):AAA 132 #[pq pb,a] w λe w'=>e=.returned (.bool b)/\SV pb L w0 w' j rv ts:=by
 refine(tY pb L j a ha w S.ps).mono ?_;rintro e w' ⟨rfl,h⟩;exact⟨by rw[hb],S.below h⟩
def afH{L:List Tk}{i:Nat}(h:nH (tok L (i+1))=none):eC L i=cV L (dB L) i:=by unfold eC;simp only[h]
def adH{L:List Tk}{i n:Nat}(h:nH (tok L (i+1))=some n):eC L i =
 if cD L i [cJ]&&decide (1<=n)&&decide (n<=1000)&&cD L (i+2) [dA]&&dP L (if cD L (i+3) [jR,gG,rA]then i+4 else i+3)then
  (if cD L (i+3) [jR,gG,rA]then aH (cQ L (i+4)) λx j=>.ok (.mk 42 n i e0 [.mk 5 0 (i+3) (tok L (i+3)).text [x]],j)
   else aH (cQ L (i+3)) λx j=>.ok (.mk 42 n i e0 [x],j))
 else cV L (dB L) i:=by unfold eC;simp only[h]
def tX(pb:Nat)(L:List T3):Reads 201 pb L 0 (cV (lk L) (dB (lk L))):=MG pb L 0 (dB (lk L)) (fA pb L)
section
variable(pb:Nat)(L:List T3)(i:Nat)(w:World)(h:PS w pb L i)
include pb L i w h
theorem XD(HU0:eC (lk L) i=cV (lk L) (dB (lk L)) i)(hs0:cD (lk L) (i+0) [cJ]=true)(hW:∀ p W,AAA 231 #[.agg #[iq (tok (lk L) (i+1)).kind,.string (tok (lk L) (i+1)).text,iq p]] W λe w'=>e=wE none/\iY W w')(hsg:cD (lk L) (i+3) [jR,gG,rA]=true):AAA 225 #[pq pb] w (aU pb L w (eC (lk L) i)):=by
 exact Hx
theorem XE(HU0:eC (lk L) i=cV (lk L) (dB (lk L)) i)(hs0:cD (lk L) (i+0) [cJ]=false)(hW:∀ p W,AAA 231 #[.agg #[iq (tok (lk L) (i+1)).kind,.string (tok (lk L) (i+1)).text,iq p]] W λe w'=>e=wE none/\iY W w')(hsg:cD (lk L) (i+3) [jR,gG,rA]=true):AAA 225 #[pq pb] w (aU pb L w (eC (lk L) i)):=by
 exact RU
theorem ajL(n:Nat)(HU0:eC (lk L) i=cV (lk L) (dB (lk L)) i)(hs0:cD (lk L) (i+0) [cJ]=false)(hW:∀ p W,AAA 231 #[.agg #[iq (tok (lk L) (i+1)).kind,.string (tok (lk L) (i+1)).text,iq p]] W λe w'=>e=wE (some n)/\iY W w')(hsg:cD (lk L) (i+3) [jR,gG,rA]=true):AAA 225 #[pq pb] w (aU pb L w (eC (lk L) i)):=by
 exact RU
end
section
variable(pb:Nat)(L:List T3)(i:Nat)(w:World)(h:PS w pb L i)(n:Nat)(HU0:eC (lk L) i=cV (lk L) (dB (lk L)) i)(hs0:cD (lk L) (i+0) [cJ]=true)
include pb L i w h n HU0 hs0
theorem alH(hn1:(n:Int)<1)(hW:∀ p W,AAA 231 #[.agg #[iq (tok (lk L) (i+1)).kind,.string (tok (lk L) (i+1)).text,iq p]] W λe w'=>e=wE (some n)/\iY W w')(hsg:cD (lk L) (i+3) [jR,gG,rA]=true):AAA 225 #[pq pb] w (aU pb L w (eC (lk L) i)):=by
 exact Hx
theorem alU(hn1:¬ (n:Int)<1)(hn2:(1000:Int)<(n:Int))(hW:∀ p W,AAA 231 #[.agg #[iq (tok (lk L) (i+1)).kind,.string (tok (lk L) (i+1)).text,iq p]] W λe w'=>e=wE (some n)/\iY W w')(hsg:cD (lk L) (i+3) [jR,gG,rA]=true):AAA 225 #[pq pb] w (aU pb L w (eC (lk L) i)):=by
 exact Hx
theorem ajR(hn1:¬ (n:Int)<1)(hn2:¬ (1000:Int)<(n:Int))(hs2:cD (lk L) (i+2) [dA]=false)(hW:∀ p W,AAA 231 #[.agg #[iq (tok (lk L) (i+1)).kind,.string (tok (lk L) (i+1)).text,iq p]] W λe w'=>e=wE (some n)/\iY W w')(hsg:cD (lk L) (i+3) [jR,gG,rA]=true):AAA 225 #[pq pb] w (aU pb L w (eC (lk L) i)):=by
 have hbd:=h.bd;unfold wE at hW;have hnot:∀ (x:Bool) (w:World),(Op.unary .not (.bool x)).run Tryz.prog w=.ok (.bool (!x)) w:=λ_ _=>rfl
 have HSG:=aN hsg;clear hsg;have HU:=aN HU0;clear HU0;have HS0:=aN hs0;clear hs0;have HS2:=aN hs2;clear hs2;go_in;go_upto_region 1 with fail;have S1:=SV.new h;generalize World.alloc w _=w1 at S1 ⊢;go_upto_block 1 with fail;refine(S1.eT (E:=λe=>∃ p:Int,e=_) (fS pb L i 1 aD w1 S1.ps)).mono ?_;rintro e w2 ⟨⟨p,rfl⟩,S2⟩;go_upto_block 1 with fail;refine gU (S2.eT (E:=λe=>e=_) (hW p w2)) λw3 S3=>?_;clear hW;go_upto_block 3 with fail;refine gU (S3.oN 3 aD [jR,gG,rA] aD #[.string ⟨#[43]⟩,.string ⟨#[45]⟩,.string ⟨#[94]⟩] rfl 3 rfl true HSG.out) λw4 S4=>?_;exact PY
theorem anA(hn1:¬ (n:Int)<1)(hn2:¬ (1000:Int)<(n:Int))(hs2:cD (lk L) (i+2) [dA]=true)(hcn:dP (lk L) (i+4)=false)(hW:∀ p W,AAA 231 #[.agg #[iq (tok (lk L) (i+1)).kind,.string (tok (lk L) (i+1)).text,iq p]] W λe w'=>e=wE (some n)/\iY W w')(hsg:cD (lk L) (i+3) [jR,gG,rA]=true):AAA 225 #[pq pb] w (aU pb L w (eC (lk L) i)):=by
 have hbd:=h.bd;unfold wE at hW;have hnot:∀ (x:Bool) (w:World),(Op.unary .not (.bool x)).run Tryz.prog w=.ok (.bool (!x)) w:=λ_ _=>rfl
 have HSG:=aN hsg;clear hsg;have HU:=aN HU0;clear HU0;have HS0:=aN hs0;clear hs0;have HS2:=aN hs2;clear hs2;have HCN:=aN hcn;clear hcn;go_in;go_upto_region 1 with fail;have S1:=SV.new h;generalize World.alloc w _=w1 at S1 ⊢;go_upto_block 1 with fail;refine(S1.eT (E:=λe=>∃ p:Int,e=_) (fS pb L i 1 aD w1 S1.ps)).mono ?_;rintro e w2 ⟨⟨p,rfl⟩,S2⟩;go_upto_block 1 with fail;refine gU (S2.eT (E:=λe=>e=_) (hW p w2)) λw3 S3=>?_;clear hW;go_upto_block 3 with fail;refine gU (S3.oN 3 aD [jR,gG,rA] aD #[.string ⟨#[43]⟩,.string ⟨#[45]⟩,.string ⟨#[94]⟩] rfl 3 rfl true HSG.out) λw4 S4=>?_;go_upto_block 5 with fail;refine gU (S4.oN 0 aD [cJ] aD #[.string ⟨#[40]⟩] rfl 1 rfl true HS0.out) λw5 S5=>?_;go_upto_block 5 with fail;refine gU (S5.oN 2 aD [dA] aD #[.string ⟨#[41]⟩] rfl 1 rfl true HS2.out) λw6 S6=>?_;go_upto_block 5 with fail;refine gU (S6.Gs 4 aD false HCN.out) λw7 S7=>?_;exact RT
end
section
variable(pb:Nat)(L:List T3)(i:Nat)(w:World)(h:PS w pb L i)
include pb L i w h
theorem Xm(HU0:eC (lk L) i=cV (lk L) (dB (lk L)) i)(hs0:cD (lk L) (i+0) [cJ]=true)(hW:∀ p W,AAA 231 #[.agg #[iq (tok (lk L) (i+1)).kind,.string (tok (lk L) (i+1)).text,iq p]] W λe w'=>e=wE none/\iY W w')(hsg:cD (lk L) (i+3) [jR,gG,rA]=false):AAA 225 #[pq pb] w (aU pb L w (eC (lk L) i)):=by
 exact Hk
theorem XC(HU0:eC (lk L) i=cV (lk L) (dB (lk L)) i)(hs0:cD (lk L) (i+0) [cJ]=false)(hW:∀ p W,AAA 231 #[.agg #[iq (tok (lk L) (i+1)).kind,.string (tok (lk L) (i+1)).text,iq p]] W λe w'=>e=wE none/\iY W w')(hsg:cD (lk L) (i+3) [jR,gG,rA]=false):AAA 225 #[pq pb] w (aU pb L w (eC (lk L) i)):=by
 exact Sp
theorem alT(n:Nat)(HU0:eC (lk L) i=cV (lk L) (dB (lk L)) i)(hs0:cD (lk L) (i+0) [cJ]=false)(hW:∀ p W,AAA 231 #[.agg #[iq (tok (lk L) (i+1)).kind,.string (tok (lk L) (i+1)).text,iq p]] W λe w'=>e=wE (some n)/\iY W w')(hsg:cD (lk L) (i+3) [jR,gG,rA]=false):AAA 225 #[pq pb] w (aU pb L w (eC (lk L) i)):=by
 exact Sp
end
section
variable(pb:Nat)(L:List T3)(i:Nat)(w:World)(h:PS w pb L i)(n:Nat)(HU0:eC (lk L) i=cV (lk L) (dB (lk L)) i)(hs0:cD (lk L) (i+0) [cJ]=true)
include pb L i w h n HU0 hs0
theorem akL(hn1:(n:Int)<1)(hW:∀ p W,AAA 231 #[.agg #[iq (tok (lk L) (i+1)).kind,.string (tok (lk L) (i+1)).text,iq p]] W λe w'=>e=wE (some n)/\iY W w')(hsg:cD (lk L) (i+3) [jR,gG,rA]=false):AAA 225 #[pq pb] w (aU pb L w (eC (lk L) i)):=by
 exact Hk
theorem amW(hn1:¬ (n:Int)<1)(hn2:(1000:Int)<(n:Int))(hW:∀ p W,AAA 231 #[.agg #[iq (tok (lk L) (i+1)).kind,.string (tok (lk L) (i+1)).text,iq p]] W λe w'=>e=wE (some n)/\iY W w')(hsg:cD (lk L) (i+3) [jR,gG,rA]=false):AAA 225 #[pq pb] w (aU pb L w (eC (lk L) i)):=by
 exact Hk
theorem akO(hn1:¬ (n:Int)<1)(hn2:¬ (1000:Int)<(n:Int))(hs2:cD (lk L) (i+2) [dA]=false)(hW:∀ p W,AAA 231 #[.agg #[iq (tok (lk L) (i+1)).kind,.string (tok (lk L) (i+1)).text,iq p]] W λe w'=>e=wE (some n)/\iY W w')(hsg:cD (lk L) (i+3) [jR,gG,rA]=false):AAA 225 #[pq pb] w (aU pb L w (eC (lk L) i)):=by
 have hbd:=h.bd;unfold wE at hW;have hnot:∀ (x:Bool) (w:World),(Op.unary .not (.bool x)).run Tryz.prog w=.ok (.bool (!x)) w:=λ_ _=>rfl
 have HSG:=aN hsg;clear hsg;have HU:=aN HU0;clear HU0;have HS0:=aN hs0;clear hs0;have HS2:=aN hs2;clear hs2;go_in;go_upto_region 1 with fail;have S1:=SV.new h;generalize World.alloc w _=w1 at S1 ⊢;go_upto_block 1 with fail;refine(S1.eT (E:=λe=>∃ p:Int,e=_) (fS pb L i 1 aD w1 S1.ps)).mono ?_;rintro e w2 ⟨⟨p,rfl⟩,S2⟩;go_upto_block 1 with fail;refine gU (S2.eT (E:=λe=>e=_) (hW p w2)) λw3 S3=>?_;clear hW;go_upto_block 3 with fail;refine gU (S3.oN 3 aD [jR,gG,rA] aD #[.string ⟨#[43]⟩,.string ⟨#[45]⟩,.string ⟨#[94]⟩] rfl 3 rfl false HSG.out) λw4 S4=>?_;exact PY
theorem ajS(hn1:¬ (n:Int)<1)(hn2:¬ (1000:Int)<(n:Int))(hs2:cD (lk L) (i+2) [dA]=true)(hcn:dP (lk L) (i+3)=false)(hW:∀ p W,AAA 231 #[.agg #[iq (tok (lk L) (i+1)).kind,.string (tok (lk L) (i+1)).text,iq p]] W λe w'=>e=wE (some n)/\iY W w')(hsg:cD (lk L) (i+3) [jR,gG,rA]=false):AAA 225 #[pq pb] w (aU pb L w (eC (lk L) i)):=by
 have hbd:=h.bd;unfold wE at hW;have hnot:∀ (x:Bool) (w:World),(Op.unary .not (.bool x)).run Tryz.prog w=.ok (.bool (!x)) w:=λ_ _=>rfl
 have HSG:=aN hsg;clear hsg;have HU:=aN HU0;clear HU0;have HS0:=aN hs0;clear hs0;have HS2:=aN hs2;clear hs2;have HCN:=aN hcn;clear hcn;go_in;go_upto_region 1 with fail;have S1:=SV.new h;generalize World.alloc w _=w1 at S1 ⊢;go_upto_block 1 with fail;refine(S1.eT (E:=λe=>∃ p:Int,e=_) (fS pb L i 1 aD w1 S1.ps)).mono ?_;rintro e w2 ⟨⟨p,rfl⟩,S2⟩;go_upto_block 1 with fail;refine gU (S2.eT (E:=λe=>e=_) (hW p w2)) λw3 S3=>?_;clear hW;go_upto_block 3 with fail;refine gU (S3.oN 3 aD [jR,gG,rA] aD #[.string ⟨#[43]⟩,.string ⟨#[45]⟩,.string ⟨#[94]⟩] rfl 3 rfl false HSG.out) λw4 S4=>?_;go_upto_block 5 with fail;refine gU (S4.oN 0 aD [cJ] aD #[.string ⟨#[40]⟩] rfl 1 rfl true HS0.out) λw5 S5=>?_;go_upto_block 5 with fail;refine gU (S5.oN 2 aD [dA] aD #[.string ⟨#[41]⟩] rfl 1 rfl true HS2.out) λw6 S6=>?_;go_upto_block 5 with fail;refine gU (S6.Gs 3 aD false HCN.out) λw7 S7=>?_;exact RT
end
end
